/- The writer: truth, a command. -/
import Derived.Test.YtkohdojiockejaaQxfPlainBytes
import Derived.Test.YtkohdojiockejaaQxfLaw45Many
import Derived.Test.YtkohdojiockejaaQxfRef45Encode
import Derived.Test.YtkohdojiockejaaPackW0
import Derived.Test.YtkohdojiockejaaPackW1
namespace Go.Proofs.Ytkohdojiockejaa.Q
open Go.RowKit Go.Proofs.YtkohdojiockejaaW.PrintWords Go.Proofs.YtkohdojiockejaaW.PrintLast Go.Proofs.YtkohdojiockejaaW.PrintMore
attribute [local go_sem] max2_int min2_int max_two min_two max_three min_three max_four min_four
set_option linter.unusedVariables false
set_option linter.unusedSimpArgs false
namespace Pk
def eB (b : Bool) : List Int := if b = true then [1] else [0]
def eT (x : S71) : List Int := eN x.f0 ++ (eN x.f1 ++ eW 10 x.f2)
/-- A command as bytes. -/
def eC (c : S45) : List Int := [c.f0, c.f1, c.f2].flatMap eN ++ (eL c.f3 ++ ([c.f4.f0, c.f4.f1, c.f4.f2, c.f4.f3, c.f4.f4, c.f4.f5, c.f4.f6, c.f4.f7].flatMap eN ++ (eB c.f4.f8 ++ (eL c.f4.f9 ++ (eL c.f5 ++ (eN (c.f6.length : Int) ++ (c.f6.flatMap eT ++ eB c.f7)))))))
def longC (c : S45) : Bool := decide (256 < c.f3.length) || (decide (256 < c.f4.f9.length) || (decide (256 < c.f5.length) || decide (256 < c.f6.length)))
/-- A command that is gone through. -/
structure okC (c : S45) : Prop where
  a : i64 c.f0 ∧ i64 c.f1 ∧ i64 c.f2
  b : i64 c.f4.f0 ∧ i64 c.f4.f1 ∧ i64 c.f4.f2 ∧ i64 c.f4.f3 ∧ i64 c.f4.f4 ∧ i64 c.f4.f5 ∧ i64 c.f4.f6 ∧ i64 c.f4.f7
  s : (∀ x ∈ c.f3, i64 x) ∧ (∀ x ∈ c.f4.f9, i64 x) ∧ (∀ x ∈ c.f5, i64 x)
  t : ∀ x ∈ c.f6, i64 x.f0 ∧ i64 x.f1 ∧ 0 ≤ x.f2 ∧ x.f2 < 18446744073709551616
structure smC (c : S45) : Prop where
  sa : c.f3.length ≤ 300
  sb : c.f4.f9.length ≤ 300
  sc : c.f5.length ≤ 300
  sd : c.f6.length ≤ 300
theorem fl_len {α : Type} {f : α → List Int} {n : Nat} (h : ∀ x, (f x).length ≤ n) : ∀ l : List α, (l.flatMap f).length ≤ n * l.length
  | [] => by simp
  | a :: l => by
    have h1 := h a
    have h2 := fl_len h l
    rw [List.flatMap_cons, List.length_append, List.length_cons, Nat.mul_succ]
    omega
theorem eB_len (b : Bool) : (eB b).length = 1 := by unfold eB; split <;> rfl
theorem eT_len (x : S71) : (eT x).length ≤ 30 := by
  have h1 := eN_len x.f0
  have h2 := eN_len x.f1
  have h3 := eW_len 10 x.f2
  unfold eT
  rw [List.length_append, List.length_append]
  omega
theorem intsC {w : World} {g t : Nat} {l : List Int} (h : w.heap[g]? = some (.cells (l.map (Value.int .i64)).toArray t (0, 0))) (hl : l.length ≤ 1000) : Kd.C (Kd.int .i64) w (some ⟨g, 0, none⟩) l.length l := by
  refine ⟨rfl, by omega, fun _ => ⟨_, rfl, fun j p hj => ⟨[.int .i64 p], rfl, rfl, fun i u hu => ?_⟩⟩⟩
  match i with
  | 0 =>
    obtain rfl := Option.some.inj hu
    have e : ((⟨g, 0, none⟩ : Addr).add (j * 1 + 0)) = ⟨g, j, none⟩ := by unfold Addr.add; split <;> simp_all
    show w.cell? ((⟨g, 0, none⟩ : Addr).add (j * 1 + 0)) = _
    rw [e, blk_cell h j, List.getElem?_toArray, List.getElem?_map, hj]
    rfl
  | i + 1 => simp at hu
theorem drop71 {l : List S71} {i : Nat} (h : i < l.length) : l.drop i = rd_T71 l (i : Int) :: l.drop (i + 1) := by
  unfold rd_T71
  rw [Int.toNat_natCast, List.getD_eq_getElem?_getD, List.getElem?_eq_getElem h]
  exact (List.getElem_cons_drop h).symm
theorem mem71 {l : List S71} {i : Nat} (h : i < l.length) : rd_T71 l (i : Int) ∈ l := by
  unfold rd_T71
  rw [Int.toNat_natCast, List.getD_eq_getElem?_getD, List.getElem?_eq_getElem h]
  exact List.getElem_mem _
theorem numberL (gw g : Nat) (bs : List Int) (long : Bool) (l : List Int) (W w : World) (h : Wr W w gw bs long) (hb : w.heap[g]? = some (.cells (l.map (Value.int .i64)).toArray 3 (0, 0))) (hn : ∀ x ∈ l, i64 x) (hl : l.length ≤ 100) (hbs : bs.length ≤ 900000000) :
  Calls Try.prog 15 #[.pointer (some ⟨gw, 0, none⟩), .slice (some ⟨g, 0, none⟩) l.length l.length] w fun e w' => e = .returned (.tuple #[]) ∧ Wr W w' gw (bs ++ l.flatMap eN) long ∧ Fr [48, 5] w w' :=
  number.calls gw bs long (some ⟨g, 0, none⟩) l.length l W w h (fun w' hf _ => intsC (hf.blk hb (by simp)) (by omega)) hn (by omega)
theorem blk17 {w : World} {g t : Nat} {a0 a1 a2 a3 a4 a5 a6 a7 a8 a9 a10 a11 a12 a13 a14 a15 a16 : Value} (h : w.heap[g]? = some (.cells #[a0, a1, a2, a3, a4, a5, a6, a7, a8, a9, a10, a11, a12, a13, a14, a15, a16] t (0, 0))) : w.cell? ⟨g, 0, none⟩ = some a0 ∧ w.cell? ⟨g, 1, none⟩ = some a1 ∧ w.cell? ⟨g, 2, none⟩ = some a2 ∧ w.cell? ⟨g, 3, none⟩ = some a3 ∧ w.cell? ⟨g, 4, none⟩ = some a4 ∧ w.cell? ⟨g, 5, none⟩ = some a5 ∧ w.cell? ⟨g, 6, none⟩ = some a6 ∧ w.cell? ⟨g, 7, none⟩ = some a7 ∧ w.cell? ⟨g, 8, none⟩ = some a8 ∧ w.cell? ⟨g, 9, none⟩ = some a9 ∧ w.cell? ⟨g, 10, none⟩ = some a10 ∧ w.cell? ⟨g, 11, none⟩ = some a11 ∧ w.cell? ⟨g, 12, none⟩ = some a12 ∧ w.cell? ⟨g, 13, none⟩ = some a13 ∧ w.cell? ⟨g, 14, none⟩ = some a14 ∧ w.cell? ⟨g, 15, none⟩ = some a15 ∧ w.cell? ⟨g, 16, none⟩ = some a16 := ⟨(blk_cell h 0).trans rfl, (blk_cell h 1).trans rfl, (blk_cell h 2).trans rfl, (blk_cell h 3).trans rfl, (blk_cell h 4).trans rfl, (blk_cell h 5).trans rfl, (blk_cell h 6).trans rfl, (blk_cell h 7).trans rfl, (blk_cell h 8).trans rfl, (blk_cell h 9).trans rfl, (blk_cell h 10).trans rfl, (blk_cell h 11).trans rfl, (blk_cell h 12).trans rfl, (blk_cell h 13).trans rfl, (blk_cell h 14).trans rfl, (blk_cell h 15).trans rfl, (blk_cell h 16).trans rfl⟩
theorem P10 {w : World} {g t : Nat} {a0 a1 a2 a3 a4 a5 a6 a7 a8 a9 u0 u1 u2 u3 u4 u5 u6 u7 u8 u9 : Value} (h : w.heap[g]? = some (.cells #[a0, a1, a2, a3, a4, a5, a6, a7, a8, a9] t (0, 0))) : ((((((((((w.setCell ⟨g, 0, none⟩ u0).setCell ⟨g, 1, none⟩ u1).setCell ⟨g, 2, none⟩ u2).setCell ⟨g, 3, none⟩ u3).setCell ⟨g, 4, none⟩ u4).setCell ⟨g, 5, none⟩ u5).setCell ⟨g, 6, none⟩ u6).setCell ⟨g, 7, none⟩ u7).setCell ⟨g, 8, none⟩ u8).setCell ⟨g, 9, none⟩ u9).heap[g]? = some (.cells #[u0, u1, u2, u3, u4, u5, u6, u7, u8, u9] t (0, 0)) := (blk_put (cs := #[u0, u1, u2, u3, u4, u5, u6, u7, u8, a9]) (blk_put (cs := #[u0, u1, u2, u3, u4, u5, u6, u7, a8, a9]) (blk_put (cs := #[u0, u1, u2, u3, u4, u5, u6, a7, a8, a9]) (blk_put (cs := #[u0, u1, u2, u3, u4, u5, a6, a7, a8, a9]) (blk_put (cs := #[u0, u1, u2, u3, u4, a5, a6, a7, a8, a9]) (blk_put (cs := #[u0, u1, u2, u3, a4, a5, a6, a7, a8, a9]) (blk_put (cs := #[u0, u1, u2, a3, a4, a5, a6, a7, a8, a9]) (blk_put (cs := #[u0, u1, a2, a3, a4, a5, a6, a7, a8, a9]) (blk_put (cs := #[u0, a1, a2, a3, a4, a5, a6, a7, a8, a9]) (blk_put (cs := #[a0, a1, a2, a3, a4, a5, a6, a7, a8, a9]) h 0 u0 rfl) 1 u1 rfl) 2 u2 rfl) 3 u3 rfl) 4 u4 rfl) 5 u5 rfl) 6 u6 rfl) 7 u7 rfl) 8 u8 rfl) 9 u9 rfl)
theorem B10 {W w : World} {g : Nat} {u0 u1 u2 u3 u4 u5 u6 u7 u8 u9 : Value} (h : Below W.heap.size W w) (hg : W.heap.size ≤ g) : Below W.heap.size W ((((((((((w.setCell ⟨g, 0, none⟩ u0).setCell ⟨g, 1, none⟩ u1).setCell ⟨g, 2, none⟩ u2).setCell ⟨g, 3, none⟩ u3).setCell ⟨g, 4, none⟩ u4).setCell ⟨g, 5, none⟩ u5).setCell ⟨g, 6, none⟩ u6).setCell ⟨g, 7, none⟩ u7).setCell ⟨g, 8, none⟩ u8).setCell ⟨g, 9, none⟩ u9) := (below_set (j := 9) (v := u9) (below_set (j := 8) (v := u8) (below_set (j := 7) (v := u7) (below_set (j := 6) (v := u6) (below_set (j := 5) (v := u5) (below_set (j := 4) (v := u4) (below_set (j := 3) (v := u3) (below_set (j := 2) (v := u2) (below_set (j := 1) (v := u1) (below_set (j := 0) (v := u0) h hg) hg) hg) hg) hg) hg) hg) hg) hg) hg)
set_option maxHeartbeats 16000000 in
set_option maxRecDepth 100000 in
theorem truth.calls (gw : Nat) (bs : List Int) (long b : Bool) (W w : World) (h : Wr W w gw bs long) (hl : bs.length ≤ 1000000000) :
  Calls Try.prog 27 #[.pointer (some ⟨gw, 0, none⟩), .bool b] w fun e w' => e = .returned (.tuple #[]) ∧ Wr W w' gw (bs ++ eB b) long ∧ Fr [48, 5] w w' := by
 have hu48 := Try.underlying48
 obtain ⟨⟨v, hb, hr⟩, hge, hbel⟩ := h
 obtain ⟨A, c, rfl⟩ := Kd.R_slice hr
 have HB := aM hb
 have HO := aM hr
 have HG := aM (And.intro hge hbel)
 have HL := aM hl
 clear hb hr hge hbel hl
 have hczs := blk2 HB.out
 have NE := aM (Kd.R_away HO.out (fun _ h_ => h_) : some gw ≠ (Value.slice A bs.length c).ownBlock)
 cases b with
 | true =>
  go_enter Try.func27, Try.ntmps27
  go_wp2_with (first | ((with_reducible refine gate_builtin (b := .append) (xs := #[.tmp 9, .tmp 10]) rfl ?_); at_builtin; refine Kd.R_append (Kd.int .u8) (w0 := W) W.heap.size rfl (.tmp 9) (.tmp 10) 25 5 (.int .u8 0) 1 rfl Try.underlying25 info5 rfl (by decide) (by omega) (.slice A bs.length c) bs (1) [.int .u8 (1)] (fun k => k ≠ gw) (fun _ => False) rfl rfl rfl (fun _ hk => hk.elim) ?aF (pR HO.out) (below_size_ok HG.out.2) (below_size HG.out.2) ?aL ?_; (case aF => intro k hk e_; have h1 := blk_lt HB.out; subst e_; exact absurd hk (by simp; omega)); (case aL => have := HL.out; omega); intro v1 w1 ho hb hg _; obtain ⟨Ao, co, eo⟩ := Kd.R_slice ho; subst eo; rw [List.length_append, List.length_singleton] at ho; have HO1 := aM ho; have HB1 := aM (blk_grown HB.out hg NE.out); have HG1 := aM hb; have HF1 := aM (Fr.row (Q := [48, 5]) HO.out hg (by simp)); clear ho hb hg hczs; have hczs := blk2 HB1.out))
  first | refine bodyPost_end (results_none rfl _ _ _) rfl ?_ | refine bodyPost_ret (results_none rfl _ _ _) rfl ?_
  exact ⟨rfl, ⟨⟨_, blk_put HB1.out 0 _ rfl, Kd.R_far HO1.out (p := ⟨gw, 0, none⟩) (fun _ h_ => h_) _⟩, HG.out.1, below_set HG1.out HG.out.1⟩, HF1.out.set HB1.out (by simp)⟩
 | false =>
  go_enter Try.func27, Try.ntmps27
  go_wp2_with (first | ((with_reducible refine gate_builtin (b := .append) (xs := #[.tmp 18, .tmp 19]) rfl ?_); at_builtin; refine Kd.R_append (Kd.int .u8) (w0 := W) W.heap.size rfl (.tmp 18) (.tmp 19) 25 5 (.int .u8 0) 1 rfl Try.underlying25 info5 rfl (by decide) (by omega) (.slice A bs.length c) bs (0) [.int .u8 (0)] (fun k => k ≠ gw) (fun _ => False) rfl rfl rfl (fun _ hk => hk.elim) ?aF (pR HO.out) (below_size_ok HG.out.2) (below_size HG.out.2) ?aL ?_; (case aF => intro k hk e_; have h1 := blk_lt HB.out; subst e_; exact absurd hk (by simp; omega)); (case aL => have := HL.out; omega); intro v1 w1 ho hb hg _; obtain ⟨Ao, co, eo⟩ := Kd.R_slice ho; subst eo; rw [List.length_append, List.length_singleton] at ho; have HO1 := aM ho; have HB1 := aM (blk_grown HB.out hg NE.out); have HG1 := aM hb; have HF1 := aM (Fr.row (Q := [48, 5]) HO.out hg (by simp)); clear ho hb hg hczs; have hczs := blk2 HB1.out))
  first | refine bodyPost_end (results_none rfl _ _ _) rfl ?_ | refine bodyPost_ret (results_none rfl _ _ _) rfl ?_
  exact ⟨rfl, ⟨⟨_, blk_put HB1.out 0 _ rfl, Kd.R_far HO1.out (p := ⟨gw, 0, none⟩) (fun _ h_ => h_) _⟩, HG.out.1, below_set HG1.out HG.out.1⟩, HF1.out.set HB1.out (by simp)⟩
set_option maxHeartbeats 16000000 in
set_option maxRecDepth 100000 in
theorem command.calls (gw : Nat) (bs : List Int) (long : Bool) (c : S45) (A3 : Option Addr) (c3 : Nat) (A13 : Option Addr) (c13 : Nat) (A14 : Option Addr) (c14 : Nat) (A15 : Option Addr) (c15 : Nat) (W w : World) (h : Wr W w gw bs long) (hr3 : Kd.C (Kd.int .i64) W A3 c.f3.length c.f3) (hr13 : Kd.C (Kd.int .i64) W A13 c.f4.f9.length c.f4.f9) (hr14 : Kd.C (Kd.int .i64) W A14 c.f5.length c.f5) (hr15 : Kd.C k71 W A15 c.f6.length c.f6) (hok : okC c) (hsm : smC c) (hl : bs.length ≤ 400000000) :
  Calls Try.prog 16 #[.pointer (some ⟨gw, 0, none⟩), .agg #[.int .i64 c.f0, .int .i64 c.f1, .int .i64 c.f2, .slice A3 c.f3.length c3, .int .i64 c.f4.f0, .int .i64 c.f4.f1, .int .i64 c.f4.f2, .int .i64 c.f4.f3, .int .i64 c.f4.f4, .int .i64 c.f4.f5, .int .i64 c.f4.f6, .int .i64 c.f4.f7, .bool c.f4.f8, .slice A13 c.f4.f9.length c13, .slice A14 c.f5.length c14, .slice A15 c.f6.length c15, .bool c.f7]] w fun e w' => e = .returned (.tuple #[]) ∧ Wr W w' gw (bs ++ eC c) (long || longC c) ∧ Fr [48, 5] w w' := by
 have hu48 := Try.underlying48
 have hu45 := Try.underlying45
 have hu42 := Try.underlying42
 have hu71 := Try.underlying71
 have HW := aM h
 have HR3 := aM hr3
 have HR13 := aM hr13
 have HR14 := aM hr14
 have HR15 := aM hr15
 have OK := aM hok
 have SM := aM hsm
 have HL := aM hl
 clear h hr3 hr13 hr14 hr15 hok hsm hl
 have HF := aM (Fr.refl [48, 5] w)
 obtain ⟨rs, hrs⟩ : ∃ r, bs ++ eC c = r := ⟨_, rfl⟩
 obtain ⟨LG, hlg⟩ : ∃ r, (long || longC c) = r := ⟨_, rfl⟩
 rw [hrs, hlg]
 have HRS := aM hrs
 have HLG := aM hlg
 clear hrs hlg
 have L1 := aM (fl_len eN_len [c.f0, c.f1, c.f2])
 have L2 := aM (eL_len c.f3)
 have L3 := aM (fl_len eN_len [c.f4.f0, c.f4.f1, c.f4.f2, c.f4.f3, c.f4.f4, c.f4.f5, c.f4.f6, c.f4.f7])
 have L4 := aM (eB_len c.f4.f8)
 have L5 := aM (eL_len c.f4.f9)
 have L6 := aM (eL_len c.f5)
 have L7 := aM (eN_len (c.f6.length : Int))
 go_enter Try.func16, Try.ntmps16
 go_upto_region 2 with (first | ((with_reducible refine gate_dst (N := 3) rfl ?_); refine box_event ?hg (N := 3) ?hd (cs := #[.int .i64 c.f0, .int .i64 c.f1, .int .i64 c.f2, .slice A3 c.f3.length c3, .int .i64 c.f4.f0, .int .i64 c.f4.f1, .int .i64 c.f4.f2, .int .i64 c.f4.f3, .int .i64 c.f4.f4, .int .i64 c.f4.f5, .int .i64 c.f4.f6, .int .i64 c.f4.f7, .bool c.f4.f8, .slice A13 c.f4.f9.length c13, .slice A14 c.f5.length c14, .slice A15 c.f6.length c15, .bool c.f7]) (t := 45) ?hr ?_; (case hd => rfl); (case hg => rfl); (case hr => first | (go_simp; done) | (go_simp; rfl)); intro gc hg_ w2 hbox hb; have BC := aM hbox; have GC := aM (show W.heap.size ≤ gc from by have h1 := HW.out.bel.size; have h2 := hb.size; rw [hg_]; exact h1); replace HW := aM (HW.out.step hb); replace HF := aM (HF.out.trans (Fr.of_below hb)); have hzc := blk17 BC.out; clear hb hbox hg_) | ((with_reducible refine gate_dst (N := 14) rfl ?_); refine lit ?hg (N := 14) ?hd (cs := #[.int .i64 c.f0, .int .i64 c.f1, .int .i64 c.f2]) (t := 3) (n := 3) ?hr ?_; (case hd => rfl); (case hg => rfl); (case hr => first | (go_simp; done) | (go_simp; rfl)); intro g14 hg_ w_g14 hbox hb; have Bg14 := aM hbox; replace HW := aM (HW.out.step hb); replace HF := aM (HF.out.trans (Fr.of_below hb)); replace BC := bK BC hb; replace hzc := blk17 BC.out; clear hg_ hbox hb) | ((with_reducible refine gate_callee (f := 15) rfl ?_); refine goesL_ (some 15) rfl rfl Try.func15 (by kernel_rfl) rfl #[.pointer (some ⟨gw, 0, none⟩), .slice (some ⟨g14, 0, none⟩) 3 3] rfl pA ?_; refine (numberL gw g14 _ _ [c.f0, c.f1, c.f2] W _ HW.out Bg14.out (fun x hx => by rcases List.mem_cons.1 hx with rfl | hx; exact OK.out.a.1; rcases List.mem_cons.1 hx with rfl | hx; exact OK.out.a.2.1; rw [List.mem_singleton.1 hx]; exact OK.out.a.2.2) (by simp) (by have h1 := L1.out; have h2 := L2.out; have h3 := L3.out; have h4 := L4.out; have h5 := L5.out; have h6 := L6.out; have h7 := L7.out; have h8 := HL.out; have h9 := SM.out.sa; have h10 := SM.out.sb; have h11 := SM.out.sc; have h12 := SM.out.sd; simp only [List.length_append, List.length_cons, List.length_nil] at *; omega)).mono ?_; rintro e w_g14' ⟨rfl, h1, h2⟩; refine ⟨_, rfl, ?_⟩; replace HW := aM h1; replace HF := aM (HF.out.trans h2); replace BC := aM (h2.blk BC.out (by simp)); replace hzc := blk17 BC.out; clear h1 h2 Bg14))
 go_upto_region 3 with (first | ((with_reducible refine gate_callee (f := 26) rfl ?_); refine goesL_ (some 19) rfl rfl Try.func26 (by kernel_rfl) rfl #[.pointer (some ⟨gw, 0, none⟩), .slice A3 c.f3.length c3] rfl pA ?_; (with_reducible refine (list.calls gw _ _ A3 c3 c.f3 W _ HW.out HR3.out OK.out.s.1 (by have h1 := L1.out; have h2 := L2.out; have h3 := L3.out; have h4 := L4.out; have h5 := L5.out; have h6 := L6.out; have h7 := L7.out; have h8 := HL.out; have h9 := SM.out.sa; have h10 := SM.out.sb; have h11 := SM.out.sc; have h12 := SM.out.sd; simp only [List.length_append, List.length_cons, List.length_nil] at *; omega) (by have := SM.out.sa; omega)).mono ?_); rintro e w_l19 ⟨rfl, h1, h2⟩; refine ⟨_, rfl, ?_⟩; replace HW := aM h1; replace HF := aM (HF.out.trans h2); replace BC := aM (h2.blk BC.out (by simp)); replace hzc := blk17 BC.out; clear h1 h2))
 go_upto_region 4 with (first | ((with_reducible refine gate_dst (N := 4) rfl ?_); refine box_event ?hg (N := 4) ?hd (cs := #[.int .i64 0, .int .i64 0, .int .i64 0, .int .i64 0, .int .i64 0, .int .i64 0, .int .i64 0, .int .i64 0, .bool false, .slice none 0 0]) (t := 42) ?hr ?_; (case hd => rfl); (case hg => rfl); (case hr => first | (go_simp; done) | (go_simp; rfl)); intro ga hg_ wa hbox hb; have BA0 := aM hbox; have GA := aM (Nat.le_of_eq hg_.symm); have HA := aM hb; have hza := blk10 BA0.out; clear hb hbox hg_))
 clear hza hzc
 have BA := aM (P10 (u0 := .int .i64 c.f4.f0) (u1 := .int .i64 c.f4.f1) (u2 := .int .i64 c.f4.f2) (u3 := .int .i64 c.f4.f3) (u4 := .int .i64 c.f4.f4) (u5 := .int .i64 c.f4.f5) (u6 := .int .i64 c.f4.f6) (u7 := .int .i64 c.f4.f7) (u8 := .bool c.f4.f8) (u9 := .slice A13 c.f4.f9.length c13) BA0.out)
 have HB10 := aM (B10 (g := ga) (u0 := .int .i64 c.f4.f0) (u1 := .int .i64 c.f4.f1) (u2 := .int .i64 c.f4.f2) (u3 := .int .i64 c.f4.f3) (u4 := .int .i64 c.f4.f4) (u5 := .int .i64 c.f4.f5) (u6 := .int .i64 c.f4.f6) (u7 := .int .i64 c.f4.f7) (u8 := .bool c.f4.f8) (u9 := .slice A13 c.f4.f9.length c13) HA.out GA.out)
 clear BA0
 replace HW := aM (HW.out.step HB10.out)
 replace HF := aM (HF.out.trans (Fr.of_below HB10.out))
 replace BC := bK BC HB10.out
 clear GA HA HB10
 generalize ((((((((((wa.setCell ⟨ga, 0, none⟩ (.int .i64 c.f4.f0)).setCell ⟨ga, 1, none⟩ (.int .i64 c.f4.f1)).setCell ⟨ga, 2, none⟩ (.int .i64 c.f4.f2)).setCell ⟨ga, 3, none⟩ (.int .i64 c.f4.f3)).setCell ⟨ga, 4, none⟩ (.int .i64 c.f4.f4)).setCell ⟨ga, 5, none⟩ (.int .i64 c.f4.f5)).setCell ⟨ga, 6, none⟩ (.int .i64 c.f4.f6)).setCell ⟨ga, 7, none⟩ (.int .i64 c.f4.f7)).setCell ⟨ga, 8, none⟩ (.bool c.f4.f8)).setCell ⟨ga, 9, none⟩ (.slice A13 c.f4.f9.length c13)) = wb at HW HF BA BC ⊢
 have hzc := blk17 BC.out
 have hza := blk10 BA.out
 go_upto_region 5 with (first | ((with_reducible refine gate_dst (N := 39) rfl ?_); refine lit ?hg (N := 39) ?hd (cs := #[.int .i64 c.f4.f0, .int .i64 c.f4.f1, .int .i64 c.f4.f2, .int .i64 c.f4.f3, .int .i64 c.f4.f4, .int .i64 c.f4.f5, .int .i64 c.f4.f6, .int .i64 c.f4.f7]) (t := 3) (n := 8) ?hr ?_; (case hd => rfl); (case hg => rfl); (case hr => first | (go_simp; done) | (go_simp; rfl)); intro g39 hg_ w_g39 hbox hb; have Bg39 := aM hbox; replace HW := aM (HW.out.step hb); replace HF := aM (HF.out.trans (Fr.of_below hb)); replace BC := bK BC hb; replace hzc := blk17 BC.out; replace BA := bK BA hb; replace hza := blk10 BA.out; clear hg_ hbox hb) | ((with_reducible refine gate_callee (f := 15) rfl ?_); refine goesL_ (some 40) rfl rfl Try.func15 (by kernel_rfl) rfl #[.pointer (some ⟨gw, 0, none⟩), .slice (some ⟨g39, 0, none⟩) 8 8] rfl pA ?_; refine (numberL gw g39 _ _ [c.f4.f0, c.f4.f1, c.f4.f2, c.f4.f3, c.f4.f4, c.f4.f5, c.f4.f6, c.f4.f7] W _ HW.out Bg39.out (fun x hx => by rcases List.mem_cons.1 hx with rfl | hx; exact OK.out.b.1; rcases List.mem_cons.1 hx with rfl | hx; exact OK.out.b.2.1; rcases List.mem_cons.1 hx with rfl | hx; exact OK.out.b.2.2.1; rcases List.mem_cons.1 hx with rfl | hx; exact OK.out.b.2.2.2.1; rcases List.mem_cons.1 hx with rfl | hx; exact OK.out.b.2.2.2.2.1; rcases List.mem_cons.1 hx with rfl | hx; exact OK.out.b.2.2.2.2.2.1; rcases List.mem_cons.1 hx with rfl | hx; exact OK.out.b.2.2.2.2.2.2.1; rw [List.mem_singleton.1 hx]; exact OK.out.b.2.2.2.2.2.2.2) (by simp) (by have h1 := L1.out; have h2 := L2.out; have h3 := L3.out; have h4 := L4.out; have h5 := L5.out; have h6 := L6.out; have h7 := L7.out; have h8 := HL.out; have h9 := SM.out.sa; have h10 := SM.out.sb; have h11 := SM.out.sc; have h12 := SM.out.sd; simp only [List.length_append, List.length_cons, List.length_nil] at *; omega)).mono ?_; rintro e w_g39' ⟨rfl, h1, h2⟩; refine ⟨_, rfl, ?_⟩; replace HW := aM h1; replace HF := aM (HF.out.trans h2); replace BC := aM (h2.blk BC.out (by simp)); replace hzc := blk17 BC.out; replace BA := aM (h2.blk BA.out (by simp)); replace hza := blk10 BA.out; clear h1 h2 Bg39))
 go_upto_region 6 with (first | ((with_reducible refine gate_callee (f := 27) rfl ?_); refine goesL_ (some 44) rfl rfl Try.func27 (by kernel_rfl) rfl #[.pointer (some ⟨gw, 0, none⟩), .bool c.f4.f8] rfl pA ?_; (with_reducible refine (truth.calls gw _ _ c.f4.f8 W _ HW.out (by have h1 := L1.out; have h2 := L2.out; have h3 := L3.out; have h4 := L4.out; have h5 := L5.out; have h6 := L6.out; have h7 := L7.out; have h8 := HL.out; have h9 := SM.out.sa; have h10 := SM.out.sb; have h11 := SM.out.sc; have h12 := SM.out.sd; simp only [List.length_append, List.length_cons, List.length_nil] at *; omega)).mono ?_); rintro e w_t44 ⟨rfl, h1, h2⟩; refine ⟨_, rfl, ?_⟩; replace HW := aM h1; replace HF := aM (HF.out.trans h2); replace BC := aM (h2.blk BC.out (by simp)); replace hzc := blk17 BC.out; replace BA := aM (h2.blk BA.out (by simp)); replace hza := blk10 BA.out; clear h1 h2))
 go_upto_region 7 with (first | ((with_reducible refine gate_callee (f := 26) rfl ?_); refine goesL_ (some 48) rfl rfl Try.func26 (by kernel_rfl) rfl #[.pointer (some ⟨gw, 0, none⟩), .slice A13 c.f4.f9.length c13] rfl pA ?_; (with_reducible refine (list.calls gw _ _ A13 c13 c.f4.f9 W _ HW.out HR13.out OK.out.s.2.1 (by have h1 := L1.out; have h2 := L2.out; have h3 := L3.out; have h4 := L4.out; have h5 := L5.out; have h6 := L6.out; have h7 := L7.out; have h8 := HL.out; have h9 := SM.out.sa; have h10 := SM.out.sb; have h11 := SM.out.sc; have h12 := SM.out.sd; simp only [List.length_append, List.length_cons, List.length_nil] at *; omega) (by have := SM.out.sb; omega)).mono ?_); rintro e w_l48 ⟨rfl, h1, h2⟩; refine ⟨_, rfl, ?_⟩; replace HW := aM h1; replace HF := aM (HF.out.trans h2); replace BC := aM (h2.blk BC.out (by simp)); replace hzc := blk17 BC.out; clear h1 h2))
 clear BA hza
 go_upto_region 8 with (first | ((with_reducible refine gate_callee (f := 26) rfl ?_); refine goesL_ (some 52) rfl rfl Try.func26 (by kernel_rfl) rfl #[.pointer (some ⟨gw, 0, none⟩), .slice A14 c.f5.length c14] rfl pA ?_; (with_reducible refine (list.calls gw _ _ A14 c14 c.f5 W _ HW.out HR14.out OK.out.s.2.2 (by have h1 := L1.out; have h2 := L2.out; have h3 := L3.out; have h4 := L4.out; have h5 := L5.out; have h6 := L6.out; have h7 := L7.out; have h8 := HL.out; have h9 := SM.out.sa; have h10 := SM.out.sb; have h11 := SM.out.sc; have h12 := SM.out.sd; simp only [List.length_append, List.length_cons, List.length_nil] at *; omega) (by have := SM.out.sc; omega)).mono ?_); rintro e w_l52 ⟨rfl, h1, h2⟩; refine ⟨_, rfl, ?_⟩; replace HW := aM h1; replace HF := aM (HF.out.trans h2); replace BC := aM (h2.blk BC.out (by simp)); replace hzc := blk17 BC.out; clear h1 h2))
 obtain ⟨bz, hbz⟩ : ∃ z, bs ++ [c.f0, c.f1, c.f2].flatMap eN ++ eL c.f3 ++ [c.f4.f0, c.f4.f1, c.f4.f2, c.f4.f3, c.f4.f4, c.f4.f5, c.f4.f6, c.f4.f7].flatMap eN ++ eB c.f4.f8 ++ eL c.f4.f9 ++ eL c.f5 = z := ⟨_, rfl⟩
 obtain ⟨lg, hlg⟩ : ∃ z, (((long || decide (256 < c.f3.length)) || decide (256 < c.f4.f9.length)) || decide (256 < c.f5.length)) = z := ⟨_, rfl⟩
 have HW8 := HW.out
 rw [hbz, hlg] at HW8
 clear HW
 have HW := aM HW8
 have HBZ := aM (show bz ++ (eN (c.f6.length : Int) ++ (c.f6.flatMap eT ++ eB c.f7)) = rs by rw [← HRS.out, ← hbz]; unfold eC; simp only [List.append_assoc])
 have HLZ := aM (show bz.length ≤ 400020000 by rw [← hbz]; have h1 := L1.out; have h2 := L2.out; have h3 := L3.out; have h4 := L4.out; have h5 := L5.out; have h6 := L6.out; have h7 := L7.out; have h8 := HL.out; have h9 := SM.out.sa; have h10 := SM.out.sb; have h11 := SM.out.sc; have h12 := SM.out.sd; simp only [List.length_append, List.length_cons, List.length_nil] at *; omega)
 have HLG2 := aM (show (lg || decide (256 < c.f6.length)) = LG by rw [← HLG.out, ← hlg]; unfold longC; simp only [Bool.or_assoc])
 clear hbz hlg HW8 HLG HRS L1 L2 L3 L4 L5 L6
 obtain ⟨v, hb, _⟩ := HW.out.ex
 have HB := aM hb
 clear hb
 have hczs := blk2 HB.out
 have b1 : decide ((c.f6.length : Int) > 256) = decide (256 < c.f6.length) := by rw [decide_eq_decide]; omega
 have b2 : decide (256 < (c.f6.length : Int)) = decide (256 < c.f6.length) := by rw [decide_eq_decide]; omega
 have HW2 := aM (HW.out.mark LG)
 have HF2 := aM (HF.out.trans (Fr.set (Fr.refl _ _) (j := 1) (v := .bool LG) HB.out (by simp)))
 have BC2 := aM (blk_far (p := ⟨gw, 1, none⟩) BC.out (fun e_ => by have h1 := BC.out; rw [e_, HB.out] at h1; cases h1) (.bool LG))
 clear BC HW HF
 cases lg with
 | true =>
  obtain rfl : LG = true := by rw [← HLG2.out]; rfl
  clear HLG2 HB
  go_upto_region 9 with (fail)
  clear hczs hzc b1 b2
  generalize w_l52.setCell ⟨gw, 1, none⟩ (Value.bool true) = wc at HW2 HF2 BC2 ⊢
  have HW := HW2
  have HF := HF2
  have BC := BC2
  have hzc := blk17 BC.out
  clear HW2 HF2 BC2
  go_upto_region 10 with (first | ((with_reducible refine gate_dst (N := 70) rfl ?_); refine lit ?hg (N := 70) ?hd (cs := #[.int .i64 (c.f6.length : Int)]) (t := 3) (n := 1) ?hr ?_; (case hd => rfl); (case hg => rfl); (case hr => first | (go_simp; done) | (go_simp; rfl)); intro g70 hg_ w_g70 hbox hb; have Bg70 := aM hbox; replace HW := aM (HW.out.step hb); replace HF := aM (HF.out.trans (Fr.of_below hb)); replace BC := bK BC hb; replace hzc := blk17 BC.out; clear hg_ hbox hb) | ((with_reducible refine gate_callee (f := 15) rfl ?_); refine goesL_ (some 71) rfl rfl Try.func15 (by kernel_rfl) rfl #[.pointer (some ⟨gw, 0, none⟩), .slice (some ⟨g70, 0, none⟩) 1 1] rfl pA ?_; (refine (number1 gw g70 _ _ (c.f6.length : Int) W _ HW.out Bg70.out (⟨by omega, by have := SM.out.sd; omega⟩) (by have := HLZ.out; omega)).mono ?_); rintro e w71 ⟨rfl, h1, h2⟩; refine ⟨_, rfl, ?_⟩; replace HW := aM h1; replace HF := aM (HF.out.trans h2); replace BC := aM (h2.blk BC.out (by simp)); replace hzc := blk17 BC.out; clear h1 h2 Bg70))
  go_wp2
  go_loopg [75] c.f6.length (fun kq v75 w' => ∃ (i : Nat) (cs : List Int), v75 = .int .i64 (i : Int) ∧ Aside0 (i + kq = c.f6.length) ∧ Aside0 (cs ++ ((c.f6.drop i).flatMap eT ++ eB c.f7) = rs) ∧ Aside0 (cs.length + 30 * kq ≤ 400100000) ∧ Aside0 (Wr W w' gw cs true) ∧ Aside0 (Fr [48, 5] w w') ∧ Aside0 (w'.heap[gc]? = some (.cells #[.int .i64 c.f0, .int .i64 c.f1, .int .i64 c.f2, .slice A3 c.f3.length c3, .int .i64 c.f4.f0, .int .i64 c.f4.f1, .int .i64 c.f4.f2, .int .i64 c.f4.f3, .int .i64 c.f4.f4, .int .i64 c.f4.f5, .int .i64 c.f4.f6, .int .i64 c.f4.f7, .bool c.f4.f8, .slice A13 c.f4.f9.length c13, .slice A14 c.f5.length c14, .slice A15 c.f6.length c15, .bool c.f7] 45 (0, 0))))
  case atStart => exact ⟨0, _, rfl, ⟨by omega⟩, ⟨by rw [List.drop_zero, List.append_assoc]; exact HBZ.out⟩, ⟨by have h1 := HLZ.out; have h7 := L7.out; have h12 := SM.out.sd; rw [List.length_append]; omega⟩, ⟨HW.out.step (by repeat (first | exact Below.refl _ _ | apply below_alloc | apply pw_below_drewN | apply below_drew1))⟩, ⟨HF.out.trans (Fr.of_below (by repeat (first | exact Below.refl _ _ | apply below_alloc | apply pw_below_drewN | apply below_drew1)))⟩, ⟨blk_below BC.out (by repeat (first | exact Below.refl _ _ | apply below_alloc | apply pw_below_drewN | apply below_drew1))⟩⟩
  case round =>
   clear HW HF BC HBZ HLZ hzc
   obtain ⟨i, cs, rfl, HK, HA, HC, HW, HF, BC⟩ := hrel
   have hzc := blk17 BC.out
   cases gk with
   | succ kq =>
    have hi : i < c.f6.length := by have := HK.out; omega
    have d1 : decide ((i : Int) < (c.f6.length : Int)) = true := decide_eq_true (by omega)
    have d2 : decide (i < c.f6.length) = true := decide_eq_true hi
    have p1 : (0 ≤ (i : Int)) = True := eq_true (by omega)
    have q1 : ((i : Int) < (c.f6.length : Int)) = True := eq_true (by omega)
    have q2 : (i < c.f6.length) = True := eq_true hi
    obtain ⟨ad, ead, h0, h1, h2⟩ := at_T71 HR15.out (i : Int) (by omega) (by omega)
    cases ead
    rw [Int.toNat_natCast] at h0 h1 h2
    have hm := HA.out
    rw [drop71 hi, List.flatMap_cons] at hm
    have hx := OK.out.t _ (mem71 hi)
    obtain ⟨x, hx'⟩ : ∃ x, rd_T71 c.f6 (i : Int) = x := ⟨_, rfl⟩
    rw [hx'] at h0 h1 h2 hm hx
    have HA2 := aM (show (cs ++ [x.f0, x.f1].flatMap eN ++ eW 10 x.f2) ++ ((c.f6.drop (i + 1)).flatMap eT ++ eB c.f7) = rs by rw [← hm]; unfold eT; simp [List.flatMap_cons, List.append_assoc])
    have HX := aM hx
    have mv : ∀ {a : Addr} {v : Value}, W.cell? a = some v → wr.cell? a = some v := fun h_ => (HW.out.bel.cell (World.block_lt_of_cell? W _ h_)).trans h_
    have g0 := mv h0
    have g1 := mv h1
    have g2 := mv h2
    clear hi h0 h1 h2 hm hx hx' HA mv
    go_upto_region 13 with (first | ((with_reducible refine gate_dst (N := 6) rfl ?_); refine box_event ?hg (N := 6) ?hd (cs := #[.int .i64 0, .int .i64 0, .int .u64 0]) (t := 71) ?hr ?_; (case hd => rfl); (case hg => rfl); (case hr => first | (go_simp; done) | (go_simp; rfl)); intro gx hg_ wx hbox hb; have BX0 := aM hbox; have GX := aM (Nat.le_of_eq hg_.symm); have HX1 := aM hb; have hzx := blk3 BX0.out; clear hb hbox hg_ g0 g1 g2))
    clear hzx hzc
    have BX := aM (P3 (u0 := .int .i64 x.f0) (u1 := .int .i64 x.f1) (u2 := .int .u64 x.f2) BX0)
    have HBX := aM (below_set (j := 2) (v := .int .u64 x.f2) (below_set (j := 1) (v := .int .i64 x.f1) (below_set (j := 0) (v := .int .i64 x.f0) HX1.out GX.out) GX.out) GX.out)
    replace HW := aM (HW.out.step HBX.out)
    replace HF := aM (HF.out.trans (Fr.of_below HBX.out))
    replace BC := bK BC HBX.out
    clear BX0 HBX GX HX1
    generalize ((wx.setCell ⟨gx, 0, none⟩ (.int .i64 x.f0)).setCell ⟨gx, 1, none⟩ (.int .i64 x.f1)).setCell ⟨gx, 2, none⟩ (.int .u64 x.f2) = wy at HW HF BC BX ⊢
    have hzx := blk3 BX.out
    go_wp2_with (first | ((with_reducible refine gate_dst (N := 84) rfl ?_); refine lit ?hg (N := 84) ?hd (cs := #[.int .i64 x.f0, .int .i64 x.f1]) (t := 3) (n := 2) ?hr ?_; (case hd => rfl); (case hg => rfl); (case hr => first | (go_simp; done) | (go_simp; rfl)); intro g84 hg_ w_g84 hbox hb; have Bg84 := aM hbox; replace HW := aM (HW.out.step hb); replace HF := aM (HF.out.trans (Fr.of_below hb)); replace BC := bK BC hb; replace BX := bK BX hb; replace hzx := blk3 BX.out; clear hg_ hbox hb) | ((with_reducible refine gate_callee (f := 15) rfl ?_); refine goesL_ (some 85) rfl rfl Try.func15 (by kernel_rfl) rfl #[.pointer (some ⟨gw, 0, none⟩), .slice (some ⟨g84, 0, none⟩) 2 2] rfl pA ?_; refine (numberL gw g84 _ _ [x.f0, x.f1] W _ HW.out Bg84.out (fun y hy => by rcases List.mem_cons.1 hy with rfl | hy; exact HX.out.1; rw [List.mem_singleton.1 hy]; exact HX.out.2.1) (by simp) (by have := HC.out; omega)).mono ?_; rintro e w85 ⟨rfl, h1, h2⟩; refine ⟨_, rfl, ?_⟩; replace HW := aM h1; replace HF := aM (HF.out.trans h2); replace BC := aM (h2.blk BC.out (by simp)); replace BX := aM (h2.blk BX.out (by simp)); replace hzx := blk3 BX.out; clear h1 h2 Bg84) | ((with_reducible refine gate_callee (f := 25) rfl ?_); refine goesL_ (some 89) rfl rfl Try.func25 (by kernel_rfl) rfl #[.pointer (some ⟨gw, 0, none⟩), .int .u64 x.f2] rfl pA ?_; (with_reducible refine (word.calls gw _ _ x.f2 W _ HW.out HX.out.2.2.1 HX.out.2.2.2 (by have h1 := HC.out; have h2 := fl_len eN_len [x.f0, x.f1]; simp only [List.length_append, List.length_cons, List.length_nil] at *; omega)).mono ?_); rintro e w89 ⟨rfl, h1, h2⟩; refine ⟨_, rfl, ?_⟩; replace HW := aM h1; replace HF := aM (HF.out.trans h2); replace BC := aM (h2.blk BC.out (by simp)); replace BX := aM (h2.blk BX.out (by simp)); replace hzx := blk3 BX.out; clear h1 h2))
    go_roundg kq
    case measure => omega
    case rel => exact ⟨i + 1, cs ++ [x.f0, x.f1].flatMap eN ++ eW 10 x.f2, by first | rfl | (rw [w64o (by have := HK.out; have := SM.out.sd; omega) (by have := HK.out; have := SM.out.sd; omega)]; rfl), ⟨by have := HK.out; omega⟩, HA2, ⟨by have h1 := HC.out; have h2 := fl_len eN_len [x.f0, x.f1]; have h3 := eW_len 10 x.f2; simp only [List.length_append, List.length_cons, List.length_nil] at *; omega⟩, HW, HF, BC⟩
   | zero =>
    have hin : i = c.f6.length := by have := HK.out; omega
    clear HK
    have hA := HA.out
    rw [hin, List.drop_length, List.flatMap_nil, List.nil_append] at hA
    subst hA
    subst hin
    clear HA
    have d1 : decide ((c.f6.length : Int) < (c.f6.length : Int)) = false := decide_eq_false (by omega)
    have d2 : decide (c.f6.length < c.f6.length) = false := decide_eq_false (by omega)
    go_wp2_with (first | ((with_reducible refine gate_callee (f := 27) rfl ?_); refine goesL_ (some 94) rfl rfl Try.func27 (by kernel_rfl) rfl #[.pointer (some ⟨gw, 0, none⟩), .bool c.f7] rfl pA ?_; (with_reducible refine (truth.calls gw _ _ c.f7 W _ HW.out (by have := HC.out; omega)).mono ?_); rintro e w_t94 ⟨rfl, h1, h2⟩; refine ⟨_, rfl, ?_⟩; replace HW := aM h1; replace HF := aM (HF.out.trans h2); clear h1 h2))
    refine bodyPost_end (results_none rfl _ _ _) rfl ?_
    exact ⟨rfl, HW.out, HF.out⟩
 | false =>
  by_cases h2 : 256 < c.f6.length
  ·obtain rfl : LG = true := by rw [← HLG2.out, decide_eq_true h2]; rfl
   rw [decide_eq_true h2] at b1 b2
   clear HLG2 HB h2
   go_upto_region 9 with (fail)
   clear hczs hzc b1 b2
   generalize w_l52.setCell ⟨gw, 1, none⟩ (Value.bool true) = wc at HW2 HF2 BC2 ⊢
   have HW := HW2
   have HF := HF2
   have BC := BC2
   have hzc := blk17 BC.out
   clear HW2 HF2 BC2
   go_upto_region 10 with (first | ((with_reducible refine gate_dst (N := 70) rfl ?_); refine lit ?hg (N := 70) ?hd (cs := #[.int .i64 (c.f6.length : Int)]) (t := 3) (n := 1) ?hr ?_; (case hd => rfl); (case hg => rfl); (case hr => first | (go_simp; done) | (go_simp; rfl)); intro g70 hg_ w_g70 hbox hb; have Bg70 := aM hbox; replace HW := aM (HW.out.step hb); replace HF := aM (HF.out.trans (Fr.of_below hb)); replace BC := bK BC hb; replace hzc := blk17 BC.out; clear hg_ hbox hb) | ((with_reducible refine gate_callee (f := 15) rfl ?_); refine goesL_ (some 71) rfl rfl Try.func15 (by kernel_rfl) rfl #[.pointer (some ⟨gw, 0, none⟩), .slice (some ⟨g70, 0, none⟩) 1 1] rfl pA ?_; (refine (number1 gw g70 _ _ (c.f6.length : Int) W _ HW.out Bg70.out (⟨by omega, by have := SM.out.sd; omega⟩) (by have := HLZ.out; omega)).mono ?_); rintro e w71 ⟨rfl, h1, h2⟩; refine ⟨_, rfl, ?_⟩; replace HW := aM h1; replace HF := aM (HF.out.trans h2); replace BC := aM (h2.blk BC.out (by simp)); replace hzc := blk17 BC.out; clear h1 h2 Bg70))
   go_wp2
   go_loopg [75] c.f6.length (fun kq v75 w' => ∃ (i : Nat) (cs : List Int), v75 = .int .i64 (i : Int) ∧ Aside0 (i + kq = c.f6.length) ∧ Aside0 (cs ++ ((c.f6.drop i).flatMap eT ++ eB c.f7) = rs) ∧ Aside0 (cs.length + 30 * kq ≤ 400100000) ∧ Aside0 (Wr W w' gw cs true) ∧ Aside0 (Fr [48, 5] w w') ∧ Aside0 (w'.heap[gc]? = some (.cells #[.int .i64 c.f0, .int .i64 c.f1, .int .i64 c.f2, .slice A3 c.f3.length c3, .int .i64 c.f4.f0, .int .i64 c.f4.f1, .int .i64 c.f4.f2, .int .i64 c.f4.f3, .int .i64 c.f4.f4, .int .i64 c.f4.f5, .int .i64 c.f4.f6, .int .i64 c.f4.f7, .bool c.f4.f8, .slice A13 c.f4.f9.length c13, .slice A14 c.f5.length c14, .slice A15 c.f6.length c15, .bool c.f7] 45 (0, 0))))
   case atStart => exact ⟨0, _, rfl, ⟨by omega⟩, ⟨by rw [List.drop_zero, List.append_assoc]; exact HBZ.out⟩, ⟨by have h1 := HLZ.out; have h7 := L7.out; have h12 := SM.out.sd; rw [List.length_append]; omega⟩, ⟨HW.out.step (by repeat (first | exact Below.refl _ _ | apply below_alloc | apply pw_below_drewN | apply below_drew1))⟩, ⟨HF.out.trans (Fr.of_below (by repeat (first | exact Below.refl _ _ | apply below_alloc | apply pw_below_drewN | apply below_drew1)))⟩, ⟨blk_below BC.out (by repeat (first | exact Below.refl _ _ | apply below_alloc | apply pw_below_drewN | apply below_drew1))⟩⟩
   case round =>
    clear HW HF BC HBZ HLZ hzc
    obtain ⟨i, cs, rfl, HK, HA, HC, HW, HF, BC⟩ := hrel
    have hzc := blk17 BC.out
    cases gk with
    | succ kq =>
     have hi : i < c.f6.length := by have := HK.out; omega
     have d1 : decide ((i : Int) < (c.f6.length : Int)) = true := decide_eq_true (by omega)
     have d2 : decide (i < c.f6.length) = true := decide_eq_true hi
     have p1 : (0 ≤ (i : Int)) = True := eq_true (by omega)
     have q1 : ((i : Int) < (c.f6.length : Int)) = True := eq_true (by omega)
     have q2 : (i < c.f6.length) = True := eq_true hi
     obtain ⟨ad, ead, h0, h1, h2⟩ := at_T71 HR15.out (i : Int) (by omega) (by omega)
     cases ead
     rw [Int.toNat_natCast] at h0 h1 h2
     have hm := HA.out
     rw [drop71 hi, List.flatMap_cons] at hm
     have hx := OK.out.t _ (mem71 hi)
     obtain ⟨x, hx'⟩ : ∃ x, rd_T71 c.f6 (i : Int) = x := ⟨_, rfl⟩
     rw [hx'] at h0 h1 h2 hm hx
     have HA2 := aM (show (cs ++ [x.f0, x.f1].flatMap eN ++ eW 10 x.f2) ++ ((c.f6.drop (i + 1)).flatMap eT ++ eB c.f7) = rs by rw [← hm]; unfold eT; simp [List.flatMap_cons, List.append_assoc])
     have HX := aM hx
     have mv : ∀ {a : Addr} {v : Value}, W.cell? a = some v → wr.cell? a = some v := fun h_ => (HW.out.bel.cell (World.block_lt_of_cell? W _ h_)).trans h_
     have g0 := mv h0
     have g1 := mv h1
     have g2 := mv h2
     clear hi h0 h1 h2 hm hx hx' HA mv
     go_upto_region 13 with (first | ((with_reducible refine gate_dst (N := 6) rfl ?_); refine box_event ?hg (N := 6) ?hd (cs := #[.int .i64 0, .int .i64 0, .int .u64 0]) (t := 71) ?hr ?_; (case hd => rfl); (case hg => rfl); (case hr => first | (go_simp; done) | (go_simp; rfl)); intro gx hg_ wx hbox hb; have BX0 := aM hbox; have GX := aM (Nat.le_of_eq hg_.symm); have HX1 := aM hb; have hzx := blk3 BX0.out; clear hb hbox hg_ g0 g1 g2))
     clear hzx hzc
     have BX := aM (P3 (u0 := .int .i64 x.f0) (u1 := .int .i64 x.f1) (u2 := .int .u64 x.f2) BX0)
     have HBX := aM (below_set (j := 2) (v := .int .u64 x.f2) (below_set (j := 1) (v := .int .i64 x.f1) (below_set (j := 0) (v := .int .i64 x.f0) HX1.out GX.out) GX.out) GX.out)
     replace HW := aM (HW.out.step HBX.out)
     replace HF := aM (HF.out.trans (Fr.of_below HBX.out))
     replace BC := bK BC HBX.out
     clear BX0 HBX GX HX1
     generalize ((wx.setCell ⟨gx, 0, none⟩ (.int .i64 x.f0)).setCell ⟨gx, 1, none⟩ (.int .i64 x.f1)).setCell ⟨gx, 2, none⟩ (.int .u64 x.f2) = wy at HW HF BC BX ⊢
     have hzx := blk3 BX.out
     go_wp2_with (first | ((with_reducible refine gate_dst (N := 84) rfl ?_); refine lit ?hg (N := 84) ?hd (cs := #[.int .i64 x.f0, .int .i64 x.f1]) (t := 3) (n := 2) ?hr ?_; (case hd => rfl); (case hg => rfl); (case hr => first | (go_simp; done) | (go_simp; rfl)); intro g84 hg_ w_g84 hbox hb; have Bg84 := aM hbox; replace HW := aM (HW.out.step hb); replace HF := aM (HF.out.trans (Fr.of_below hb)); replace BC := bK BC hb; replace BX := bK BX hb; replace hzx := blk3 BX.out; clear hg_ hbox hb) | ((with_reducible refine gate_callee (f := 15) rfl ?_); refine goesL_ (some 85) rfl rfl Try.func15 (by kernel_rfl) rfl #[.pointer (some ⟨gw, 0, none⟩), .slice (some ⟨g84, 0, none⟩) 2 2] rfl pA ?_; refine (numberL gw g84 _ _ [x.f0, x.f1] W _ HW.out Bg84.out (fun y hy => by rcases List.mem_cons.1 hy with rfl | hy; exact HX.out.1; rw [List.mem_singleton.1 hy]; exact HX.out.2.1) (by simp) (by have := HC.out; omega)).mono ?_; rintro e w85 ⟨rfl, h1, h2⟩; refine ⟨_, rfl, ?_⟩; replace HW := aM h1; replace HF := aM (HF.out.trans h2); replace BC := aM (h2.blk BC.out (by simp)); replace BX := aM (h2.blk BX.out (by simp)); replace hzx := blk3 BX.out; clear h1 h2 Bg84) | ((with_reducible refine gate_callee (f := 25) rfl ?_); refine goesL_ (some 89) rfl rfl Try.func25 (by kernel_rfl) rfl #[.pointer (some ⟨gw, 0, none⟩), .int .u64 x.f2] rfl pA ?_; (with_reducible refine (word.calls gw _ _ x.f2 W _ HW.out HX.out.2.2.1 HX.out.2.2.2 (by have h1 := HC.out; have h2 := fl_len eN_len [x.f0, x.f1]; simp only [List.length_append, List.length_cons, List.length_nil] at *; omega)).mono ?_); rintro e w89 ⟨rfl, h1, h2⟩; refine ⟨_, rfl, ?_⟩; replace HW := aM h1; replace HF := aM (HF.out.trans h2); replace BC := aM (h2.blk BC.out (by simp)); replace BX := aM (h2.blk BX.out (by simp)); replace hzx := blk3 BX.out; clear h1 h2))
     go_roundg kq
     case measure => omega
     case rel => exact ⟨i + 1, cs ++ [x.f0, x.f1].flatMap eN ++ eW 10 x.f2, by first | rfl | (rw [w64o (by have := HK.out; have := SM.out.sd; omega) (by have := HK.out; have := SM.out.sd; omega)]; rfl), ⟨by have := HK.out; omega⟩, HA2, ⟨by have h1 := HC.out; have h2 := fl_len eN_len [x.f0, x.f1]; have h3 := eW_len 10 x.f2; simp only [List.length_append, List.length_cons, List.length_nil] at *; omega⟩, HW, HF, BC⟩
    | zero =>
     have hin : i = c.f6.length := by have := HK.out; omega
     clear HK
     have hA := HA.out
     rw [hin, List.drop_length, List.flatMap_nil, List.nil_append] at hA
     subst hA
     subst hin
     clear HA
     have d1 : decide ((c.f6.length : Int) < (c.f6.length : Int)) = false := decide_eq_false (by omega)
     have d2 : decide (c.f6.length < c.f6.length) = false := decide_eq_false (by omega)
     go_wp2_with (first | ((with_reducible refine gate_callee (f := 27) rfl ?_); refine goesL_ (some 94) rfl rfl Try.func27 (by kernel_rfl) rfl #[.pointer (some ⟨gw, 0, none⟩), .bool c.f7] rfl pA ?_; (with_reducible refine (truth.calls gw _ _ c.f7 W _ HW.out (by have := HC.out; omega)).mono ?_); rintro e w_t94 ⟨rfl, h1, h2⟩; refine ⟨_, rfl, ?_⟩; replace HW := aM h1; replace HF := aM (HF.out.trans h2); clear h1 h2))
     refine bodyPost_end (results_none rfl _ _ _) rfl ?_
     exact ⟨rfl, HW.out, HF.out⟩
  ·obtain rfl : LG = false := by rw [← HLG2.out, decide_eq_false h2]; rfl
   rw [decide_eq_false h2] at b1 b2
   clear HLG2 HB h2
   go_upto_region 9 with (fail)
   clear hczs hzc b1 b2
   generalize w_l52.setCell ⟨gw, 1, none⟩ (Value.bool false) = wc at HW2 HF2 BC2 ⊢
   have HW := HW2
   have HF := HF2
   have BC := BC2
   have hzc := blk17 BC.out
   clear HW2 HF2 BC2
   go_upto_region 10 with (first | ((with_reducible refine gate_dst (N := 70) rfl ?_); refine lit ?hg (N := 70) ?hd (cs := #[.int .i64 (c.f6.length : Int)]) (t := 3) (n := 1) ?hr ?_; (case hd => rfl); (case hg => rfl); (case hr => first | (go_simp; done) | (go_simp; rfl)); intro g70 hg_ w_g70 hbox hb; have Bg70 := aM hbox; replace HW := aM (HW.out.step hb); replace HF := aM (HF.out.trans (Fr.of_below hb)); replace BC := bK BC hb; replace hzc := blk17 BC.out; clear hg_ hbox hb) | ((with_reducible refine gate_callee (f := 15) rfl ?_); refine goesL_ (some 71) rfl rfl Try.func15 (by kernel_rfl) rfl #[.pointer (some ⟨gw, 0, none⟩), .slice (some ⟨g70, 0, none⟩) 1 1] rfl pA ?_; (refine (number1 gw g70 _ _ (c.f6.length : Int) W _ HW.out Bg70.out (⟨by omega, by have := SM.out.sd; omega⟩) (by have := HLZ.out; omega)).mono ?_); rintro e w71 ⟨rfl, h1, h2⟩; refine ⟨_, rfl, ?_⟩; replace HW := aM h1; replace HF := aM (HF.out.trans h2); replace BC := aM (h2.blk BC.out (by simp)); replace hzc := blk17 BC.out; clear h1 h2 Bg70))
   go_wp2
   go_loopg [75] c.f6.length (fun kq v75 w' => ∃ (i : Nat) (cs : List Int), v75 = .int .i64 (i : Int) ∧ Aside0 (i + kq = c.f6.length) ∧ Aside0 (cs ++ ((c.f6.drop i).flatMap eT ++ eB c.f7) = rs) ∧ Aside0 (cs.length + 30 * kq ≤ 400100000) ∧ Aside0 (Wr W w' gw cs false) ∧ Aside0 (Fr [48, 5] w w') ∧ Aside0 (w'.heap[gc]? = some (.cells #[.int .i64 c.f0, .int .i64 c.f1, .int .i64 c.f2, .slice A3 c.f3.length c3, .int .i64 c.f4.f0, .int .i64 c.f4.f1, .int .i64 c.f4.f2, .int .i64 c.f4.f3, .int .i64 c.f4.f4, .int .i64 c.f4.f5, .int .i64 c.f4.f6, .int .i64 c.f4.f7, .bool c.f4.f8, .slice A13 c.f4.f9.length c13, .slice A14 c.f5.length c14, .slice A15 c.f6.length c15, .bool c.f7] 45 (0, 0))))
   case atStart => exact ⟨0, _, rfl, ⟨by omega⟩, ⟨by rw [List.drop_zero, List.append_assoc]; exact HBZ.out⟩, ⟨by have h1 := HLZ.out; have h7 := L7.out; have h12 := SM.out.sd; rw [List.length_append]; omega⟩, ⟨HW.out.step (by repeat (first | exact Below.refl _ _ | apply below_alloc | apply pw_below_drewN | apply below_drew1))⟩, ⟨HF.out.trans (Fr.of_below (by repeat (first | exact Below.refl _ _ | apply below_alloc | apply pw_below_drewN | apply below_drew1)))⟩, ⟨blk_below BC.out (by repeat (first | exact Below.refl _ _ | apply below_alloc | apply pw_below_drewN | apply below_drew1))⟩⟩
   case round =>
    clear HW HF BC HBZ HLZ hzc
    obtain ⟨i, cs, rfl, HK, HA, HC, HW, HF, BC⟩ := hrel
    have hzc := blk17 BC.out
    cases gk with
    | succ kq =>
     have hi : i < c.f6.length := by have := HK.out; omega
     have d1 : decide ((i : Int) < (c.f6.length : Int)) = true := decide_eq_true (by omega)
     have d2 : decide (i < c.f6.length) = true := decide_eq_true hi
     have p1 : (0 ≤ (i : Int)) = True := eq_true (by omega)
     have q1 : ((i : Int) < (c.f6.length : Int)) = True := eq_true (by omega)
     have q2 : (i < c.f6.length) = True := eq_true hi
     obtain ⟨ad, ead, h0, h1, h2⟩ := at_T71 HR15.out (i : Int) (by omega) (by omega)
     cases ead
     rw [Int.toNat_natCast] at h0 h1 h2
     have hm := HA.out
     rw [drop71 hi, List.flatMap_cons] at hm
     have hx := OK.out.t _ (mem71 hi)
     obtain ⟨x, hx'⟩ : ∃ x, rd_T71 c.f6 (i : Int) = x := ⟨_, rfl⟩
     rw [hx'] at h0 h1 h2 hm hx
     have HA2 := aM (show (cs ++ [x.f0, x.f1].flatMap eN ++ eW 10 x.f2) ++ ((c.f6.drop (i + 1)).flatMap eT ++ eB c.f7) = rs by rw [← hm]; unfold eT; simp [List.flatMap_cons, List.append_assoc])
     have HX := aM hx
     have mv : ∀ {a : Addr} {v : Value}, W.cell? a = some v → wr.cell? a = some v := fun h_ => (HW.out.bel.cell (World.block_lt_of_cell? W _ h_)).trans h_
     have g0 := mv h0
     have g1 := mv h1
     have g2 := mv h2
     clear hi h0 h1 h2 hm hx hx' HA mv
     go_upto_region 13 with (first | ((with_reducible refine gate_dst (N := 6) rfl ?_); refine box_event ?hg (N := 6) ?hd (cs := #[.int .i64 0, .int .i64 0, .int .u64 0]) (t := 71) ?hr ?_; (case hd => rfl); (case hg => rfl); (case hr => first | (go_simp; done) | (go_simp; rfl)); intro gx hg_ wx hbox hb; have BX0 := aM hbox; have GX := aM (Nat.le_of_eq hg_.symm); have HX1 := aM hb; have hzx := blk3 BX0.out; clear hb hbox hg_ g0 g1 g2))
     clear hzx hzc
     have BX := aM (P3 (u0 := .int .i64 x.f0) (u1 := .int .i64 x.f1) (u2 := .int .u64 x.f2) BX0)
     have HBX := aM (below_set (j := 2) (v := .int .u64 x.f2) (below_set (j := 1) (v := .int .i64 x.f1) (below_set (j := 0) (v := .int .i64 x.f0) HX1.out GX.out) GX.out) GX.out)
     replace HW := aM (HW.out.step HBX.out)
     replace HF := aM (HF.out.trans (Fr.of_below HBX.out))
     replace BC := bK BC HBX.out
     clear BX0 HBX GX HX1
     generalize ((wx.setCell ⟨gx, 0, none⟩ (.int .i64 x.f0)).setCell ⟨gx, 1, none⟩ (.int .i64 x.f1)).setCell ⟨gx, 2, none⟩ (.int .u64 x.f2) = wy at HW HF BC BX ⊢
     have hzx := blk3 BX.out
     go_wp2_with (first | ((with_reducible refine gate_dst (N := 84) rfl ?_); refine lit ?hg (N := 84) ?hd (cs := #[.int .i64 x.f0, .int .i64 x.f1]) (t := 3) (n := 2) ?hr ?_; (case hd => rfl); (case hg => rfl); (case hr => first | (go_simp; done) | (go_simp; rfl)); intro g84 hg_ w_g84 hbox hb; have Bg84 := aM hbox; replace HW := aM (HW.out.step hb); replace HF := aM (HF.out.trans (Fr.of_below hb)); replace BC := bK BC hb; replace BX := bK BX hb; replace hzx := blk3 BX.out; clear hg_ hbox hb) | ((with_reducible refine gate_callee (f := 15) rfl ?_); refine goesL_ (some 85) rfl rfl Try.func15 (by kernel_rfl) rfl #[.pointer (some ⟨gw, 0, none⟩), .slice (some ⟨g84, 0, none⟩) 2 2] rfl pA ?_; refine (numberL gw g84 _ _ [x.f0, x.f1] W _ HW.out Bg84.out (fun y hy => by rcases List.mem_cons.1 hy with rfl | hy; exact HX.out.1; rw [List.mem_singleton.1 hy]; exact HX.out.2.1) (by simp) (by have := HC.out; omega)).mono ?_; rintro e w85 ⟨rfl, h1, h2⟩; refine ⟨_, rfl, ?_⟩; replace HW := aM h1; replace HF := aM (HF.out.trans h2); replace BC := aM (h2.blk BC.out (by simp)); replace BX := aM (h2.blk BX.out (by simp)); replace hzx := blk3 BX.out; clear h1 h2 Bg84) | ((with_reducible refine gate_callee (f := 25) rfl ?_); refine goesL_ (some 89) rfl rfl Try.func25 (by kernel_rfl) rfl #[.pointer (some ⟨gw, 0, none⟩), .int .u64 x.f2] rfl pA ?_; (with_reducible refine (word.calls gw _ _ x.f2 W _ HW.out HX.out.2.2.1 HX.out.2.2.2 (by have h1 := HC.out; have h2 := fl_len eN_len [x.f0, x.f1]; simp only [List.length_append, List.length_cons, List.length_nil] at *; omega)).mono ?_); rintro e w89 ⟨rfl, h1, h2⟩; refine ⟨_, rfl, ?_⟩; replace HW := aM h1; replace HF := aM (HF.out.trans h2); replace BC := aM (h2.blk BC.out (by simp)); replace BX := aM (h2.blk BX.out (by simp)); replace hzx := blk3 BX.out; clear h1 h2))
     go_roundg kq
     case measure => omega
     case rel => exact ⟨i + 1, cs ++ [x.f0, x.f1].flatMap eN ++ eW 10 x.f2, by first | rfl | (rw [w64o (by have := HK.out; have := SM.out.sd; omega) (by have := HK.out; have := SM.out.sd; omega)]; rfl), ⟨by have := HK.out; omega⟩, HA2, ⟨by have h1 := HC.out; have h2 := fl_len eN_len [x.f0, x.f1]; have h3 := eW_len 10 x.f2; simp only [List.length_append, List.length_cons, List.length_nil] at *; omega⟩, HW, HF, BC⟩
    | zero =>
     have hin : i = c.f6.length := by have := HK.out; omega
     clear HK
     have hA := HA.out
     rw [hin, List.drop_length, List.flatMap_nil, List.nil_append] at hA
     subst hA
     subst hin
     clear HA
     have d1 : decide ((c.f6.length : Int) < (c.f6.length : Int)) = false := decide_eq_false (by omega)
     have d2 : decide (c.f6.length < c.f6.length) = false := decide_eq_false (by omega)
     go_wp2_with (first | ((with_reducible refine gate_callee (f := 27) rfl ?_); refine goesL_ (some 94) rfl rfl Try.func27 (by kernel_rfl) rfl #[.pointer (some ⟨gw, 0, none⟩), .bool c.f7] rfl pA ?_; (with_reducible refine (truth.calls gw _ _ c.f7 W _ HW.out (by have := HC.out; omega)).mono ?_); rintro e w_t94 ⟨rfl, h1, h2⟩; refine ⟨_, rfl, ?_⟩; replace HW := aM h1; replace HF := aM (HF.out.trans h2); clear h1 h2))
     refine bodyPost_end (results_none rfl _ _ _) rfl ?_
     exact ⟨rfl, HW.out, HF.out⟩
end Pk
end Go.Proofs.Ytkohdojiockejaa.Q
