/- The plain law: the reference reads what the program reads. -/
import Derived.Test.YtkohdojiockejaaQxfPlainBytes
import Derived.Test.YtkohdojiockejaaQxfLaw45Many
import Derived.Test.YtkohdojiockejaaQxfRef45Encode
import Derived.Test.YtkohdojiockejaaPackBits
import Derived.Test.YtkohdojiockejaaPackW0
import Derived.Test.YtkohdojiockejaaPackW1
import Derived.Test.YtkohdojiockejaaPackW2
import Derived.Test.YtkohdojiockejaaPackW3
import Derived.Test.YtkohdojiockejaaPackR0
import Derived.Test.YtkohdojiockejaaPackR1
import Derived.Test.YtkohdojiockejaaPackR4
import Derived.Test.YtkohdojiockejaaPackR5
import Derived.Test.YtkohdojiockejaaPackR6
import Derived.Test.YtkohdojiockejaaPackLaw2
import Derived.Test.YtkohdojiockejaaPackQ0
import Derived.Test.YtkohdojiockejaaPackQ1
import Derived.Test.YtkohdojiockejaaPackQ2
import Derived.Test.YtkohdojiockejaaPackQ3
namespace Go.Proofs.Ytkohdojiockejaa.Q
open Go.RowKit Go.Proofs.YtkohdojiockejaaW.PrintWords Go.Proofs.YtkohdojiockejaaW.PrintLast Go.Proofs.YtkohdojiockejaaW.PrintMore
set_option linter.unusedVariables false
set_option linter.unusedSimpArgs false
namespace Pk
def Ag {α : Type} (q : α × RS) : Rd α → Prop
  | .ok x l => q = (x, .ok l)
  | .bad k => q.2 = .bad k
theorem Ag.next {α β : Type} {q : α × RS} {r : Rd α} (h : Ag q r) {F : α × RS → β × RS} {G : α → List Int → Rd β} (h1 : ∀ x l, Ag (F (x, .ok l)) (G x l)) (h2 : ∀ q e, q.2 = .bad e → (F q).2 = .bad e) : Ag (F q) (r.next G) := by
  cases r with
  | ok x l =>
    have e : q = (x, .ok l) := h
    subst e
    exact h1 x l
  | bad k => exact h2 q k h
theorem ag_ws (bs : List Int) : Ag (ws (.ok bs)) (rw_ bs) := by
  unfold ws
  dsimp only
  cases rw_ bs <;> rfl
theorem ag_nq (bs : List Int) : Ag (nq (.ok bs)) (rn bs) := by
  unfold nq ws rn rdN rw_
  dsimp only
  cases rdW 10 0 1 bs <;> rfl
theorem ws_b {s : RS} {e : Int} (h : s = .bad e) : (ws s).2 = .bad e := by subst h; rfl
theorem nq_b {s : RS} {e : Int} (h : s = .bad e) : (nq s).2 = .bad e := by subst h; rfl
theorem mq_bad (most e : Int) : mq most (.bad e) = (0, .bad e) := rfl
theorem mq_b {most : Int} {s : RS} {e : Int} (h : s = .bad e) : (mq most s).2 = .bad e := by subst h; rfl
theorem bq_b {s : RS} {e : Int} (h : s = .bad e) : (bq s).2 = .bad e := by subst h; rfl
theorem lsn_b : ∀ (k : Nat) {s : RS} {e : Int}, s = .bad e → (lsn k s).2 = .bad e
  | 0, _, _, h => h
  | k + 1, _, _, h => lsn_b k (nq_b h)
theorem lq_b {s : RS} {e : Int} (h : s = .bad e) : (lq s).2 = .bad e := lsn_b _ (mq_b h)
theorem tsn_b : ∀ (k : Nat) {s : RS} {e : Int}, s = .bad e → (tsn k s).2 = .bad e
  | 0, _, _, h => h
  | k + 1, _, _, h => tsn_b k (ws_b (nq_b (nq_b h)))
theorem ag_mq (most : Int) (bs : List Int) : Ag (mq most (.ok bs)) (rm most bs) := by
  have h := ag_nq bs
  unfold mq rm
  unfold rn at h
  cases hr : rdN bs with
  | none =>
    rw [hr] at h
    rcases hq : nq (.ok bs) with ⟨n, s⟩
    rw [hq] at h
    have e : s = .bad 2 := h
    subst e
    rfl
  | some z =>
    rw [hr] at h
    have e : nq (.ok bs) = (z.1, .ok z.2) := h
    rw [e]
    dsimp only
    split
    · rfl
    split
    · rfl
    · rfl
theorem ag_bq (bs : List Int) : Ag (bq (.ok bs)) (rb bs) := by
  unfold bq
  dsimp only
  cases rb bs <;> rfl
theorem ag_lsn : ∀ (k : Nat) (bs : List Int), Ag (lsn k (.ok bs)) (rns k bs)
  | 0, bs => rfl
  | k + 1, bs => by
    rw [rns]
    refine (ag_nq bs).next (F := fun q => (q.1 :: (lsn k q.2).1, (lsn k q.2).2)) (fun n l => ?_) (fun q e h => lsn_b k h)
    exact (ag_lsn k l).next (F := fun q => (n :: q.1, q.2)) (fun ns l' => rfl) (fun q e h => h)
theorem ag_lq (bs : List Int) : Ag (lq (.ok bs)) (rl bs) :=
  (ag_mq 256 bs).next (F := fun q => lsn q.1.toNat q.2) (fun n l => ag_lsn _ l) (fun q e h => lsn_b _ h)
theorem ag_tsn : ∀ (k : Nat) (bs : List Int), Ag (tsn k (.ok bs)) (rts k bs)
  | 0, bs => rfl
  | k + 1, bs => by
    rw [rts]
    have h1 : Ag ((⟨(nq (.ok bs)).1, (nq (nq (.ok bs)).2).1, (ws (nq (nq (.ok bs)).2).2).1⟩, (ws (nq (nq (.ok bs)).2).2).2) : S71 × RS) (rt bs) := by
      unfold rt
      refine (ag_nq bs).next (F := fun q => ((⟨q.1, (nq q.2).1, (ws (nq q.2).2).1⟩, (ws (nq q.2).2).2) : S71 × RS)) (fun a l => ?_) (fun q e h => ws_b (nq_b h))
      refine (ag_nq l).next (F := fun q => ((⟨a, q.1, (ws q.2).1⟩, (ws q.2).2) : S71 × RS)) (fun b l => ?_) (fun q e h => ws_b h)
      exact (ag_ws l).next (F := fun q => ((⟨a, b, q.1⟩, q.2) : S71 × RS)) (fun c l => rfl) (fun q e h => h)
    refine h1.next (F := fun q => (q.1 :: (tsn k q.2).1, (tsn k q.2).2)) (fun t l => ?_) (fun q e h => tsn_b k h)
    exact (ag_tsn k l).next (F := fun q => (t :: q.1, q.2)) (fun ns l' => rfl) (fun q e h => h)
def cc8 (f s a : List Int) (k : Bool) (t d : List Int) (ts : List S71) (q : Bool × RS) : S45 × RS := (⟨f.getD 0 0, f.getD 1 0, f.getD 2 0, s, ⟨a.getD 0 0, a.getD 1 0, a.getD 2 0, a.getD 3 0, a.getD 4 0, a.getD 5 0, a.getD 6 0, a.getD 7 0, k, t⟩, d, ts, q.1⟩, q.2)
def cc7 (f s a : List Int) (k : Bool) (t d : List Int) (q : List S71 × RS) : S45 × RS := cc8 f s a k t d q.1 (bq q.2)
def cc6 (f s a : List Int) (k : Bool) (t d : List Int) (q : Int × RS) : S45 × RS := cc7 f s a k t d (tsn q.1.toNat q.2)
def cc5 (f s a : List Int) (k : Bool) (t : List Int) (q : List Int × RS) : S45 × RS := cc6 f s a k t q.1 (mq 256 q.2)
def cc4 (f s a : List Int) (k : Bool) (q : List Int × RS) : S45 × RS := cc5 f s a k q.1 (lq q.2)
def cc3 (f s a : List Int) (q : Bool × RS) : S45 × RS := cc4 f s a q.1 (lq q.2)
def cc2 (f s : List Int) (q : List Int × RS) : S45 × RS := cc3 f s q.1 (bq q.2)
def cc1 (f : List Int) (q : List Int × RS) : S45 × RS := cc2 f q.1 (lsn 8 q.2)
def cc0 (q : List Int × RS) : S45 × RS := cc1 q.1 (lq q.2)
theorem lsn_s (k : Nat) (s : RS) : lsn (k + 1) s = ((nq s).1 :: (lsn k (nq s).2).1, (lsn k (nq s).2).2) := rfl
theorem lsn_0 (s : RS) : lsn 0 s = ([], s) := rfl
theorem lsn3 (s : RS) : lsn 3 s = ([(nq s).1, (nq (nq s).2).1, (nq (nq (nq s).2).2).1], (nq (nq (nq s).2).2).2) := by
  rw [lsn_s, lsn_s, lsn_s, lsn_0]
theorem lsn8 (s : RS) : lsn 8 s = ((nq s).1 :: (nq (nq s).2).1 :: (nq (nq (nq s).2).2).1 :: (lsn 5 (nq (nq (nq s).2).2).2).1, (lsn 5 (nq (nq (nq s).2).2).2).2) := by
  rw [lsn_s, lsn_s, lsn_s]
theorem lsn5 (s : RS) : lsn 5 s = ([(nq s).1, (nq (nq s).2).1, (nq (nq (nq s).2).2).1, (nq (nq (nq (nq s).2).2).2).1, (nq (nq (nq (nq (nq s).2).2).2).2).1], (nq (nq (nq (nq (nq s).2).2).2).2).2) := by
  rw [lsn_s, lsn_s, lsn_s, lsn_s, lsn_s, lsn_0]
theorem cq_cc (s : RS) : cq s = cc0 (lsn 3 s) := by
  rw [lsn3]
  unfold cq cc0
  dsimp only
  generalize nq s = q0
  generalize nq q0.2 = q1
  generalize nq q1.2 = q2
  generalize lq q2.2 = q3
  unfold cc1
  rw [lsn8, lsn5]
  dsimp only
  generalize nq q3.2 = q4
  generalize nq q4.2 = q5
  generalize nq q5.2 = q6
  generalize nq q6.2 = q7
  generalize nq q7.2 = q8
  generalize nq q8.2 = q9
  generalize nq q9.2 = q10
  generalize nq q10.2 = q11
  unfold cc2 cc3 cc4 cc5 cc6 cc7 cc8
  dsimp only
  rfl
theorem cc7_b {f s a : List Int} {k : Bool} {t d : List Int} {q : List S71 × RS} {e : Int} (h : q.2 = .bad e) : (cc7 f s a k t d q).2 = .bad e := bq_b h
theorem cc6_b {f s a : List Int} {k : Bool} {t d : List Int} {q : Int × RS} {e : Int} (h : q.2 = .bad e) : (cc6 f s a k t d q).2 = .bad e := cc7_b (tsn_b _ h)
theorem cc5_b {f s a : List Int} {k : Bool} {t : List Int} {q : List Int × RS} {e : Int} (h : q.2 = .bad e) : (cc5 f s a k t q).2 = .bad e := cc6_b (mq_b h)
theorem cc4_b {f s a : List Int} {k : Bool} {q : List Int × RS} {e : Int} (h : q.2 = .bad e) : (cc4 f s a k q).2 = .bad e := cc5_b (lq_b h)
theorem cc3_b {f s a : List Int} {q : Bool × RS} {e : Int} (h : q.2 = .bad e) : (cc3 f s a q).2 = .bad e := cc4_b (lq_b h)
theorem cc2_b {f s : List Int} {q : List Int × RS} {e : Int} (h : q.2 = .bad e) : (cc2 f s q).2 = .bad e := cc3_b (bq_b h)
theorem cc1_b {f : List Int} {q : List Int × RS} {e : Int} (h : q.2 = .bad e) : (cc1 f q).2 = .bad e := cc2_b (lsn_b 8 h)
theorem cc0_b {q : List Int × RS} {e : Int} (h : q.2 = .bad e) : (cc0 q).2 = .bad e := cc1_b (lq_b h)
theorem cq_b {s : RS} {e : Int} (h : s = .bad e) : (cq s).2 = .bad e := by
  rw [cq_cc]
  exact cc0_b (lsn_b 3 h)
theorem ag_cq (bs : List Int) : Ag (cq (.ok bs)) (rc bs) := by
  rw [cq_cc]
  exact (ag_lsn 3 bs).next (F := cc0) (fun f l => (ag_lq l).next (F := cc1 f) (fun s l => (ag_lsn 8 l).next (F := cc2 f s) (fun a l => (ag_bq l).next (F := cc3 f s a) (fun k l => (ag_lq l).next (F := cc4 f s a k) (fun t l => (ag_lq l).next (F := cc5 f s a k t) (fun d l => (ag_mq 256 l).next (F := cc6 f s a k t d) (fun n l => (ag_tsn n.toNat l).next (F := cc7 f s a k t d) (fun ts l => (ag_bq l).next (F := cc8 f s a k t d ts) (fun o l => rfl) (fun q e h => h)) (fun q e h => cc7_b h)) (fun q e h => cc6_b h)) (fun q e h => cc5_b h)) (fun q e h => cc4_b h)) (fun q e h => cc3_b h)) (fun q e h => cc2_b h)) (fun q e h => cc1_b h)) (fun q e h => cc0_b h)
theorem cqn_b : ∀ (k : Nat) {s : RS} {e : Int}, s = .bad e → (cqn k s).2 = .bad e
  | 0, _, _, h => h
  | k + 1, _, _, h => cqn_b k (cq_b h)
theorem ag_cqn : ∀ (k : Nat) (bs : List Int), Ag (cqn k (.ok bs)) (rcs k bs)
  | 0, bs => rfl
  | k + 1, bs => by
    rw [rcs]
    refine (ag_cq bs).next (F := fun q => (q.1 :: (cqn k q.2).1, (cqn k q.2).2)) (fun c l => ?_) (fun q e h => cqn_b k h)
    exact (ag_cqn k l).next (F := fun q => (c :: q.1, q.2)) (fun ns l' => rfl) (fun q e h => h)
/-- The reference reads what the program reads. -/
theorem dq_dec (bs : List Int) : dq bs = (decL bs, decE bs) := by
  have h : Ag (cqn (mq 200 (.ok bs)).1.toNat (mq 200 (.ok bs)).2) (ra bs) :=
    (ag_mq 200 bs).next (F := fun q => cqn q.1.toNat q.2) (fun n l => ag_cqn _ l) (fun q e h => cqn_b _ h)
  unfold dq decL decE
  revert h
  rcases cqn (mq 200 (.ok bs)).1.toNat (mq 200 (.ok bs)).2 with ⟨cs, s⟩
  intro h
  cases hr : ra bs with
  | ok x l =>
    rw [hr] at h
    obtain ⟨rfl, rfl⟩ := Prod.mk.inj (h : (cs, s) = (x, RS.ok l))
    cases l <;> rfl
  | bad k =>
    rw [hr] at h
    have e : s = .bad k := h
    subst e
    rfl
end Pk
end Go.Proofs.Ytkohdojiockejaa.Q
