/- Texts of the proof of InferDims, part 0: what functions of the program compute, and that they compute it. -/
import Derived.Test.YtcdiobcldhiemaaKInferDimsW
import Derived.Test.YtcdiobcldhiemaaProg
import Derived.Below
import Derived.Deep.Draws
import Derived.Deep.AppendLies
import Derived.Maps.AppendAt
import Derived.OwnWalk
import Derived.Laws.BytesArg
import Derived.Laws.MakeOwn
import Derived.Laws.OwnMore
import Derived.Deep.OwnRows
import Derived.Tactics
import Derived.Lib.ConvBytes
import Derived.Laws.Slices
import Derived.WalkKit
import Derived.KernelRfl
import Derived.RowKit3
import Derived.Deep.LoopGhost
import Derived.Deep.QuietTactic
import Derived.BigQuiet
import Derived.WideLaws
import Derived.Deep.DeepCutAuto
import Derived.Deep.CutBlock
import Derived.Deep.RegionHeld3
import Derived.Laws.Rows
import Derived.Lib.AppendStr
import Derived.ArgAppend
import Derived.Laws.IdiomCopy
import Derived.OrdersHeld
import Derived.Laws.BitsLemmas
import Derived.RowKit
import Derived.WalkMore
import Derived.WalkSpells
set_option maxHeartbeats 8000000
set_option maxRecDepth 100000
theorem ip.{u} {c : Prop} {h : Decidable c} (hc : c) {α : Sort u} {t e : α} : (ite c t e) = t := if_pos hc
theorem iN.{u} {c : Prop} {h : Decidable c} (hc : ¬c) {α : Sort u} {t e : α} : (ite c t e) = e := if_neg hc
namespace G
/-- The product of some numbers. -/
def prod:List Int→Int
  | []=>1
  | x::l=>x*prod l
/-- What is wrong with dims (0: nothing). -/
def chk (d:List Int):Int :=
  if 6<d.length then 9 else if d.any (fun x=>decide (x<1))then 8 else if 64<prod d then 12 else 0
theorem prod_append (a b:List Int):prod (a++b)=prod a*prod b:=by
  induction a with
  | nil=>simp[prod]
  | cons x a ih=>simp[prod,ih,Int.mul_assoc]
theorem prod_pos (l:List Int)(h:∀ x∈l,1≤x):1≤prod l:=by
  induction l with
  | nil=>simp[prod]
  | cons x l ih =>
    have h1:=h x (by simp)
    have h2:=ih (fun y hy=>h y (by simp[hy]))
    have h3:0<x*prod l:=Int.mul_pos (by omega) (by omega)
    simp only[prod]
    omega
theorem prod_take_succ (l:List Int)(k:Nat)(h:k<l.length):prod (l.take (k+1))=prod (l.take k)*l[k]:=by
  rw[List.take_succ_eq_append_getElem h,prod_append]
  simp[prod]
theorem prod_take_le (l:List Int)(h:∀ x∈l,1≤x)(k:Nat):prod (l.take k)≤prod l:=by
  have e:prod l=prod (l.take k)*prod (l.drop k):=by
    rw[← prod_append,List.take_append_drop]
  have h1:=prod_pos (l.take k) (fun x hx=>h x (List.mem_of_mem_take hx))
  have h2:=prod_pos (l.drop k) (fun x hx=>h x (List.mem_of_mem_drop hx))
  rw[e]
  have h3:prod (l.take k)*1≤prod (l.take k)*prod (l.drop k):=Int.mul_le_mul_of_nonneg_left h2 (by omega)
  omega
end G
namespace Go.Proofs.Ytcdiobcldhiemaa.Q
open Go.RowKit Go.Proofs.YtcdiobcldhiemaaW.PrintWords Go.Proofs.YtcdiobcldhiemaaW.PrintLast Go.Proofs.YtcdiobcldhiemaaW.PrintMore
attribute [local go_sem] max2_int min2_int max_two min_two max_three min_three max_four min_four   -- for this text's walks alone
set_option linter.unusedVariables false
set_option linter.unusedSimpArgs false
def errW:Option Int→Value
  | none=>.nilIface
  | some c=>.iface 0 (.int .i64 c)
theorem errW_none:errW none=.nilIface:=rfl
theorem errW_some (c:Int):errW (some c)=.iface 0 (.int .i64 c):=rfl
theorem info3:(Try.prog.info? 3).map (fun i=>(i.zero,i.size,i.bytes))=some (some (.int .i64 0),1,8):=by kernel_rfl
theorem info4:(Try.prog.info? 4).map (fun i=>(i.zero,i.size,i.bytes))=some (some (.bool false),1,1):=by kernel_rfl
theorem info22:(Try.prog.info? 22).map (fun i=>(i.zero,i.size,i.bytes))=some (some (.slice none 0 0),1,24):=by kernel_rfl
-- the values' own types
def rd_L1 (xs:List (List Int)) (i:Int):(List Int):=xs.getD i.toNat ([]:List Int)
theorem at_L1 {w:World} {A:Option Addr} {n:Nat} {xs:List (List Int)} (h:Kd.C (Kd.slice 3 (Kd.int .i64)) w A n xs) (i:Int)(h0:0≤i)(h1:i<n):∃ ad A0 c0,A=some ad∧w.cell? (ad.add i.toNat)=some (.slice A0 (rd_L1 xs i).length c0)∧(rd_L1 xs i).length≤c0∧(Kd.int .i64).C w A0 (rd_L1 xs i).length (rd_L1 xs i):=by
  obtain⟨ad,c,e,_,hK,hc0⟩:=Kd.C_get h ([]:List Int) i h0 h1
  have hc:∀ j u,c[j]?=some u→w.cell? (ad.add (i.toNat*1+j))=some u:=hc0
  obtain⟨A0,c0,rfl,l0,g0⟩:=hK
  exact⟨ad,A0,c0,e,by have hq:=hc 0 _ rfl;rwa [Nat.mul_one,Nat.add_zero] at hq,l0,g0⟩
/-! #### struct type 24 -/
theorem pR {p q:Prop} (x:q)(h:q→p:=by intro h_;(with_reducible repeat(first|apply Kd.R_alloc|apply Kd.R_drewN|apply Kd.R_drew));exact h_):p:=h x
theorem pV {p q:Prop} (x:q)(h:q→p:=by intro h_;(with_reducible repeat(first|apply Kd.V_alloc|apply Kd.V_drewN|apply Kd.V_drew));exact h_):p:=h x
theorem pC {p q:Prop} (x:q)(h:q→p:=by intro h_;repeat(first|exact h_|(with_reducible refine Kd.C_alloc ?_ _)|(with_reducible refine Kd.C_drewN ?_ _)|(with_reducible refine Kd.C_drew ?_))):p:=h x
theorem bN {w:World} {g:Nat} {o:Obj} {n:Nat} (h:w.heap[g]?=some o):(w.drewN n).heap[g]?=some o:=blk_drewN h n
theorem bD {w:World} {g:Nat} {o:Obj} (h:w.heap[g]?=some o):w.drew.heap[g]?=some o:=blk_drew h
theorem bA {w:World} {g:Nat} {o o':Obj} (h:w.heap[g]?=some o):(w.alloc o').heap[g]?=some o:=blk_alloc h o'
theorem pK {p q:Prop} (x:q)(h:q→p:=by intro h_;(with_reducible repeat(first|apply bN|apply bD|apply bA));exact h_):p:=h x
theorem pE {p:Prop} (h:p:=by first|rfl|(simp[errW_none,errW_some] <;> rfl)|(simp[*,errW_none,errW_some] <;> rfl)):p:=h
theorem pF {p:Prop} (h:p:=by first|rfl|(simp;done)|(simp[*];done)):p:=h
section
variable {P : Program} {ops : Array Oper} {Q : Exit → Act → World → Prop} {md : Region.Mode} {S : World → Prop} {ds : List Nat} {T : Bool × List (List Nat × List Nat)} {i : Nat} {N : Option Tmp} {oi : Oper} {v : Value} {fuel : Nat} {l : Array Bool} {a a' : Act} {w : World}
theorem pP (l':Array Bool)(hi:ops[i]?=some oi)(hN:oi.dst=N)(hT:rtab md ops=T)(h:wpAnyLast P md ops Q S ds fuel l' a' w)(hc:anyT T l.toList l'.toList i=true:=by kernel_rfl)(hQ:∀ c a w,Q (.panic c) (a.put oi.dst v) w→Q (.panic c) a w:=by exact fun _ _ _ h=>h)
  (hy:Yields P ops oi v a:=by refine Or.inl ⟨by rfl,?_⟩;intro w';go_simp;with_reducible rfl) (ha:a.put N v=a':=by simp only[Act.put,List.setIfInBounds_toArray,List.set_cons_zero,List.set_cons_succ,i64_w,i32_w];rfl):wpAnyLast P md ops Q S ds (fuel+1) l a w:=pure_ l' hi hN (any_of hT hc) hQ hy ha h
theorem pT {B:List Nat} (l':Array Bool)(hi:ops[i]?=some oi)(hN:oi.dst=N)(hT:rtab md ops=T)(hB:waitsOk T.2 B=true)(hS:S w)(hy:∀ w',S w'→(execOp a.eval oi).run P w'=.ok (.value v) w')(h:wpAnyLast P md ops Q S ds fuel l' a' w)(hc:takeW T B ds l.toList l'.toList i=true:=by kernel_rfl)(hQ:∀ c a w,Q (.panic c) (a.put oi.dst v) w→Q (.panic c) a w:=by exact fun _ _ _ h=>h)
  (hw:Region.wanted oi (yielded ops a.tmps)=true:=by rfl) (ha:a.put N v=a':=by simp only[Act.put,List.setIfInBounds_toArray,List.set_cons_zero,List.set_cons_succ,i64_w,i32_w];rfl):wpAnyLast P md ops Q S ds (fuel+1) l a w:=take_ l' hi hN (take_ofW hT hB hc) hQ (Or.inl ⟨hw,hy⟩) hS ha h
end
theorem pD {p:Prop} (h:p:=by first|(with_reducible assumption)|assumption):p:=h
theorem aM {p:Prop} (h:p):Aside0 p:=⟨h⟩
theorem pH {α:Type} {p q:Prop} {a b:α} (e:a=b)(x:q)(h:a=b→q→p:=by intro hy_ H;first|(rw[hy_];with_reducible exact H)|(have H2_:=(Option.bind_some _ _).symm.trans H;rw[hy_];with_reducible exact H2_)|(have H2_:=(Option.bind_some _ _).symm.trans H;with_reducible exact H2_)|with_reducible exact H|(rw[hy_];exact H)|exact H):p:=h e x
theorem pN {p:Prop} (h:p:=by first|exact Kd.R_nil _ _ _ _ _|exact Kd.N_nil _ _ _ _ _|exact Kd.V_nil _ _ _ _ _|exact Kd.Q_nil _ _ _ _ _|exact Kd.S_nil _ _ _ _ _):p:=h
section
variable {α : Type} {d : Kd α} {e base : Nat} {ok : Nat → Prop} {w : World} {v : Value} {xs : List α}
theorem rA (h:d.R e w base ok v xs)(o:Obj):d.R e (w.alloc o) base ok v xs:=Kd.R_alloc h o
theorem rN (h:d.R e w base ok v xs)(m:Nat):d.R e (w.drewN m) base ok v xs:=Kd.R_drewN h m
theorem rD (h:d.R e w base ok v xs):d.R e w.drew base ok v xs:=Kd.R_drew h
end
theorem blk3 {w:World} {g:Nat} {t:TypeId} {a0 a1 a2:Value} (h:w.heap[g]?=some (.cells #[a0,a1,a2] t (0,0))):w.cell? ⟨g,0,none⟩=some a0∧w.cell? ⟨g,1,none⟩=some a1∧w.cell? ⟨g,2,none⟩=some a2∧w.frozen? ⟨g,0,none⟩=false∧w.frozen? ⟨g,1,none⟩=false∧w.frozen? ⟨g,2,none⟩=false:=⟨(blk_cell h 0).trans rfl,(blk_cell h 1).trans rfl,(blk_cell h 2).trans rfl,blk_frozen h 0,blk_frozen h 1,blk_frozen h 2⟩
theorem blk10 {w:World} {g:Nat} {t:TypeId} {a0 a1 a2 a3 a4 a5 a6 a7 a8 a9:Value} (h:w.heap[g]?=some (.cells #[a0,a1,a2,a3,a4,a5,a6,a7,a8,a9] t (0,0))):w.cell? ⟨g,0,none⟩=some a0∧w.cell? ⟨g,1,none⟩=some a1∧w.cell? ⟨g,2,none⟩=some a2∧w.cell? ⟨g,3,none⟩=some a3∧w.cell? ⟨g,4,none⟩=some a4∧w.cell? ⟨g,5,none⟩=some a5∧w.cell? ⟨g,6,none⟩=some a6∧w.cell? ⟨g,7,none⟩=some a7∧w.cell? ⟨g,8,none⟩=some a8∧w.cell? ⟨g,9,none⟩=some a9∧w.frozen? ⟨g,0,none⟩=false∧w.frozen? ⟨g,1,none⟩=false∧w.frozen? ⟨g,2,none⟩=false∧w.frozen? ⟨g,3,none⟩=false∧w.frozen? ⟨g,4,none⟩=false∧w.frozen? ⟨g,5,none⟩=false∧w.frozen? ⟨g,6,none⟩=false∧w.frozen? ⟨g,7,none⟩=false∧w.frozen? ⟨g,8,none⟩=false∧w.frozen? ⟨g,9,none⟩=false:=⟨(blk_cell h 0).trans rfl,(blk_cell h 1).trans rfl,(blk_cell h 2).trans rfl,(blk_cell h 3).trans rfl,(blk_cell h 4).trans rfl,(blk_cell h 5).trans rfl,(blk_cell h 6).trans rfl,(blk_cell h 7).trans rfl,(blk_cell h 8).trans rfl,(blk_cell h 9).trans rfl,blk_frozen h 0,blk_frozen h 1,blk_frozen h 2,blk_frozen h 3,blk_frozen h 4,blk_frozen h 5,blk_frozen h 6,blk_frozen h 7,blk_frozen h 8,blk_frozen h 9⟩
theorem sP:(∀ {α:Type} (l:List α)(i:Nat)(a:α),l.toArray.setIfInBounds i a=(l.set i a).toArray)∧(∀ {α:Type} (a b:α)(l:List α),(a::l).set 0 b=b::l)∧(∀ {α:Type} (a b:α)(l:List α)(n:Nat),(a::l).set (n+1) b=a::l.set n b):=⟨fun _ _ _=>by simp,fun _ _ _=>rfl,fun _ _ _ _=>rfl⟩
abbrev bm (n m:Nat):Array Bool:=((List.range n).map fun i=>m.testBit i).toArray
section
variable {w W w1 : World} {g n : Nat} {o : Obj} {q : Prop}
theorem bK (x:Aside0 q)(hb:Below w.heap.size w w1)(h:q→w.heap[g]?=some o:=by intro h_;(with_reducible repeat(first|apply bN|apply bD|apply bA));exact h_):Aside0 (w1.heap[g]?=some o):=⟨blk_below (h x.out) hb⟩
theorem nL (hg:n=w.heap.size)(x:Aside0 q)(h:q→w.heap[g]?=some o:=by intro h_;(with_reducible repeat(first|apply bN|apply bD|apply bA));exact h_):Aside0 (g≠n):=⟨hg ▸ Nat.ne_of_lt (blk_lt (h x.out))⟩
theorem nG (hg:n=w.heap.size)(x:Aside0 q)(h:q→w.heap[g]?=some o:=by intro h_;(with_reducible repeat(first|apply bN|apply bD|apply bA));exact h_):Aside0 (n≠g):=⟨hg ▸ Nat.ne_of_gt (blk_lt (h x.out))⟩
theorem bS (h:Below w.heap.size w W)(k:Below W.heap.size W w1):Aside0 (Below w.heap.size w w1):=⟨below_step h k⟩
theorem gE (hg:g=W.heap.size)(h:Below w.heap.size w W):Aside0 (w.heap.size≤g):=⟨hg ▸ below_size h⟩
theorem qB {p:Prop} (x:Aside0 q)(h:q→p:=by intro h_;repeat(first|(with_reducible first|exact h_|apply below_alloc|apply pw_below_drewN|apply below_drew1)|exact h_)):p:=h x.out
theorem h3 {a0 a1 a2:Value} {t:TypeId} (h:Aside0 (w.heap[g]?=some (.cells #[a0,a1,a2] t (0,0)))):w.cell? ⟨g,0,none⟩=some a0∧w.cell? ⟨g,1,none⟩=some a1∧w.cell? ⟨g,2,none⟩=some a2:=⟨(blk_cell h.out 0).trans rfl,(blk_cell h.out 1).trans rfl,(blk_cell h.out 2).trans rfl⟩
theorem B3 {u0 u1 u2:Value} {i0 i1 i2:Nat} {g':Nat} {t:TypeId} {cs:Array Value} (hne:Aside0 (g≠g'))(h:w.heap[g]?=some (.cells cs t (0,0))):(((w.setCell ⟨g',i0,none⟩ u0).setCell ⟨g',i1,none⟩ u1).setCell ⟨g',i2,none⟩ u2).heap[g]?=some (.cells cs t (0,0)):=blk_far (blk_far (blk_far h hne.out _) hne.out _) hne.out _
theorem P3 {a0 a1 a2 u0 u1 u2:Value} {t:TypeId} (h:Aside0 (w.heap[g]?=some (.cells #[a0,a1,a2] t (0,0)))):(((w.setCell ⟨g,0,none⟩ u0).setCell ⟨g,1,none⟩ u1).setCell ⟨g,2,none⟩ u2).heap[g]?=some (.cells #[u0,u1,u2] t (0,0)):=blk_put (cs:=#[u0,u1,a2]) (blk_put (cs:=#[u0,a1,a2]) (blk_put (cs:=#[a0,a1,a2]) h.out 0 u0 rfl) 1 u1 rfl) 2 u2 rfl
section
variable {α β : Type} {d : Kd α} {e base : Nat} {ok ok' : Nat → Prop} {v : Value} {xs : List α}
theorem bR (x:Aside0 q)(hb:Below w.heap.size w w1)(h:q→d.R e w base ok v xs:=by intro h_;(with_reducible repeat(first|apply Kd.R_alloc|apply Kd.R_drewN|apply Kd.R_drew));exact h_):Aside0 (d.R e w1 base ok v xs):=⟨Kd.R_below (h x.out) hb⟩
theorem eR {u:Value} {ys:List β} {e':Nat} {d':Kd β} (x:Aside0 q)(ho:d'.R e' w1 W.heap.size ok' u ys)(hb:Below W.heap.size W w1)(h:q→d.R e W base ok v xs:=by intro h_;(with_reducible repeat(first|apply Kd.R_alloc|apply Kd.R_drewN|apply Kd.R_drew));exact h_):Aside0 (d.R e w1 base (fun k=>ok k∧some k≠u.ownBlock) v xs):=⟨Kd.R_elder' (h x.out) (Kd.R_base ho) hb⟩
theorem eR2 {γ:Type} {u u':Value} {ys:List β} {zs:List γ} {e' e'':Nat} {ok'':Nat→Prop} {d':Kd β} {d'':Kd γ} (x:Aside0 q)(ho:d'.R e' w1 W.heap.size ok' u ys)(ho':d''.R e'' w1 W.heap.size ok'' u' zs)(hb:Below W.heap.size W w1)(h:q→d.R e W base ok v xs:=by intro h_;(with_reducible repeat(first|apply Kd.R_alloc|apply Kd.R_drewN|apply Kd.R_drew));exact h_):Aside0 (d.R e w1 base (fun k=>(ok k∧some k≠u.ownBlock)∧some k≠u'.ownBlock) v xs):=⟨Kd.R_mono (Kd.R_told (Kd.R_told (Kd.R_old (h x.out) hb) (Kd.R_base ho)) (Kd.R_base ho')) (fun _ h_=>h_.1)⟩
theorem sR {A:Option Addr} {m c:Nat} {p:Prop} (x:Aside0 (d.R e w base ok (.slice A m c) xs))(h:d.C w A xs.length xs→p:=by intro h_;repeat(first|exact h_|(with_reducible refine Kd.C_alloc ?_ _)|(with_reducible refine Kd.C_drewN ?_ _)|(with_reducible refine Kd.C_drew ?_))):p:=h (Kd.R_reads' x.out).2.2
theorem sL {A:Option Addr} {m c:Nat} (x:Aside0 (d.R e w base ok (.slice A m c) xs)):m≤c:=(Kd.R_reads' x.out).2.1
theorem sC {A:Option Addr} {m:Nat} {p:Prop} (x:Aside0 (d.C w A m xs))(hb:Aside0 (Below w.heap.size w w1))(h:d.C w1 A m xs→p:=by intro h_;repeat(first|exact h_|(with_reducible refine Kd.C_alloc ?_ _)|(with_reducible refine Kd.C_drewN ?_ _)|(with_reducible refine Kd.C_drew ?_))):p:=h (Kd.C_below x.out hb.out)
theorem F3 {cells:Array Value} {t:TypeId} {u0 u1 u2:Value} (h:Aside0 (d.R e w base ok v xs))(hb:Aside0 (w.heap[g]?=some (.cells cells t (0,0))))(hk:∀ k,ok k∧k≠g→ok' k)(ht:∀ q,q∈e::d.E→q≠t:=by decide):d.R e (((w.setCell ⟨g,0,none⟩ u0).setCell ⟨g,1,none⟩ u1).setCell ⟨g,2,none⟩ u2) base ok' v xs:=Kd.R_mono (Kd.R_far (p:=⟨g,2,none⟩) (Kd.R_far (p:=⟨g,1,none⟩) (Kd.R_far (p:=⟨g,0,none⟩) (Kd.R_types h.out hb.out ht) (fun _ h=>h.2) u0) (fun _ h=>h.2) u1) (fun _ h=>h.2) u2) hk
end
end
theorem qB1 {p q g0:Prop} (x:Aside0 q)(yg0:Aside0 g0)(h:q→g0→p:=by intro h_ hg0_;repeat(first|(with_reducible first|exact h_|apply below_alloc|apply pw_below_drewN|apply below_drew1|refine below_set ?_ hg0_)|exact h_)):p:=h x.out yg0.out
theorem qB2 {p q g0 g1:Prop} (x:Aside0 q)(yg0:Aside0 g0)(yg1:Aside0 g1)(h:q→g0→g1→p:=by intro h_ hg0_ hg1_;repeat(first|(with_reducible first|exact h_|apply below_alloc|apply pw_below_drewN|apply below_drew1|refine below_set ?_ hg0_|refine below_set ?_ hg1_)|exact h_)):p:=h x.out yg0.out yg1.out
theorem qB3 {p q g0 g1 g2:Prop} (x:Aside0 q)(yg0:Aside0 g0)(yg1:Aside0 g1)(yg2:Aside0 g2)(h:q→g0→g1→g2→p:=by intro h_ hg0_ hg1_ hg2_;repeat(first|(with_reducible first|exact h_|apply below_alloc|apply pw_below_drewN|apply below_drew1|refine below_set ?_ hg0_|refine below_set ?_ hg1_|refine below_set ?_ hg2_)|exact h_)):p:=h x.out yg0.out yg1.out yg2.out
theorem qB4 {p q g0 g1 g2 g3:Prop} (x:Aside0 q)(yg0:Aside0 g0)(yg1:Aside0 g1)(yg2:Aside0 g2)(yg3:Aside0 g3)(h:q→g0→g1→g2→g3→p:=by intro h_ hg0_ hg1_ hg2_ hg3_;repeat(first|(with_reducible first|exact h_|apply below_alloc|apply pw_below_drewN|apply below_drew1|refine below_set ?_ hg0_|refine below_set ?_ hg1_|refine below_set ?_ hg2_|refine below_set ?_ hg3_)|exact h_)):p:=h x.out yg0.out yg1.out yg2.out yg3.out
section
theorem oD {p:Prop} [Decidable p] (h:decide p=true:=by first|(with_reducible assumption)|assumption):p:=of_decide_eq_true h
theorem dT {p:Prop} [Decidable p] (h:p):decide p=true:=decide_eq_true h
theorem dF {p:Prop} [Decidable p] (h:¬ p):decide p=false:=decide_eq_false h
theorem bT {a b:Int} (h:a=b):(a==b)=true:=beq_iff_eq.mpr h
theorem bF {a b:Int} (h:¬ a=b):(a==b)=false:=beq_eq_false_iff_ne.mpr h
theorem nT {a b:Int} (h:¬ a=b):(a != b)=true:=bne_iff_ne.mpr h
theorem nF {a b:Int} (h:a=b):(a != b)=false:=bne_eq_false_iff_eq.mpr h
theorem oi2 {α β:Type} {a a':α} {b b':β} (h:some (a,b)=some (a',b')):a=a'∧b=b':=by cases h;exact⟨rfl,rfl⟩
theorem oi3 {α β γ:Type} {a a':α} {b b':β} {c c':γ} (h:some (a,b,c)=some (a',b',c')):a=a'∧b=b'∧c=c':=by cases h;exact⟨rfl,rfl,rfl⟩
theorem oi4 {α β γ δ:Type} {a a':α} {b b':β} {c c':γ} {d d':δ} (h:some (a,b,c,d)=some (a',b',c',d')):a=a'∧b=b'∧c=c'∧d=d':=by cases h;exact⟨rfl,rfl,rfl,rfl⟩
theorem oB {α β:Type} {x:Option α} {f:α→Option β} {b:β} (h:x.bind f=some b):∃ a,x=some a∧f a=some b:=Option.bind_eq_some_iff.mp h
theorem pO {p:Prop} (h:p:=by first|omega|exact Nat.le_refl _):p:=h
theorem pO1 {p q:Prop} (x:Aside0 q)(h:q→p:=by intro h_;first|omega|exact Nat.le_refl _):p:=h x.out
theorem pO2 {p q r:Prop} (x:Aside0 q)(y:Aside0 r)(h:q→r→p:=by intro h_ h2_;first|omega|exact Nat.le_refl _):p:=h x.out y.out
theorem zW {w W:World} {a:Addr} {v:Value} (hB:Aside0 (Below w.heap.size w W))(h:w.cell? a=some v):W.cell? a=some v:=(hB.out.cell (World.block_lt_of_cell? w _ h)).trans h
theorem zI {w:World} {A:Option Addr} {n:Nat} {xs:List Int} (h:(Kd.int .i64).C w A n xs) (i:Int)(hp:decide (0≤i)=true:=by first|(with_reducible assumption)|assumption)(hq:decide (i<(n:Int))=true:=by first|(with_reducible assumption)|assumption):∃ ad,A=some ad∧w.cell? (ad.add i.toNat)=some (.int .i64 (rd xs i))∧0≤i∧i<(n:Int):=by
  obtain⟨ad,e,hx⟩:=Kd.at_int h i (of_decide_eq_true hp) (of_decide_eq_true hq)
  exact⟨ad,e,hx,of_decide_eq_true hp,of_decide_eq_true hq⟩
variable {P : Program} {ops : Array Oper} {Q : Exit → Act → World → Prop} {md : Region.Mode} {S : World → Prop} {ds : List Nat} {T : Bool × List (List Nat × List Nat)} {oi o : Oper} {v : Value} {fuel : Nat} {l : Array Bool} {a a' : Act} {w W : World} {rest : List Oper}
theorem pQ (i j n m:Nat)(hT:Aside0 (rtab md ops=T))(h:wpAnyLast P md ops Q S ds fuel (bm n m) a' w)(hi:ops[i]?=some oi:=by exact rfl)(hN:oi.dst=some j:=by exact rfl)(hc:anyT T l.toList (bm n m).toList i=true:=by kernel_rfl)(hQ:∀ c a w,Q (.panic c) (a.put oi.dst v) w→Q (.panic c) a w:=by exact fun _ _ _ h=>h)
  (hy:Yields P ops oi v a:=by refine Or.inl ⟨by rfl,?_⟩;intro w';go_simp;with_reducible rfl) (ha:a.put (some j) v=a':=by simp only[Act.put,List.setIfInBounds_toArray,List.set_cons_zero,List.set_cons_succ,i64_w,i32_w];rfl):wpAnyLast P md ops Q S ds (fuel+1) l a w:=pP (bm n m) hi hN hT.out h hc hQ hy ha
theorem pU2 (i j n m:Nat) {B:List Nat} (hT:Aside0 (rtab md ops=T))(hB:Aside0 (waitsOk T.2 B=true))(hS:S w)(h:wpAnyLast P md ops Q S ds fuel (bm n m) a' w)(hi:ops[i]?=some oi:=by exact rfl)(hN:oi.dst=some j:=by exact rfl)(hy:∀ w',S w'→(execOp a.eval oi).run P w'=.ok (.value v) w':=by rintro w' ⟨s0,s1⟩;go_simp;with_reducible rfl)
  (hc:takeW T B ds l.toList (bm n m).toList i=true:=by kernel_rfl) (hQ:∀ c a w,Q (.panic c) (a.put oi.dst v) w→Q (.panic c) a w:=by exact fun _ _ _ h=>h)
  (hw:Region.wanted oi (yielded ops a.tmps)=true:=by rfl) (ha:a.put (some j) v=a':=by simp only[Act.put,List.setIfInBounds_toArray,List.set_cons_zero,List.set_cons_succ,i64_w,i32_w];rfl):wpAnyLast P md ops Q S ds (fuel+1) l a w:=pT (bm n m) hi hN hT.out hB.out hS hy h hc hQ hw ha
theorem pU3 (i j n m:Nat) {B:List Nat} (hT:Aside0 (rtab md ops=T))(hB:Aside0 (waitsOk T.2 B=true))(hS:S w)(h:wpAnyLast P md ops Q S ds fuel (bm n m) a' w)(hi:ops[i]?=some oi:=by exact rfl)(hN:oi.dst=some j:=by exact rfl)(hy:∀ w',S w'→(execOp a.eval oi).run P w'=.ok (.value v) w':=by rintro w' ⟨s0,s1,s2⟩;go_simp;with_reducible rfl)
  (hc:takeW T B ds l.toList (bm n m).toList i=true:=by kernel_rfl) (hQ:∀ c a w,Q (.panic c) (a.put oi.dst v) w→Q (.panic c) a w:=by exact fun _ _ _ h=>h)
  (hw:Region.wanted oi (yielded ops a.tmps)=true:=by rfl) (ha:a.put (some j) v=a':=by simp only[Act.put,List.setIfInBounds_toArray,List.set_cons_zero,List.set_cons_succ,i64_w,i32_w];rfl):wpAnyLast P md ops Q S ds (fuel+1) l a w:=pT (bm n m) hi hN hT.out hB.out hS hy h hc hQ hw ha
theorem pU4 (i j n m:Nat) {B:List Nat} (hT:Aside0 (rtab md ops=T))(hB:Aside0 (waitsOk T.2 B=true))(hS:S w)(h:wpAnyLast P md ops Q S ds fuel (bm n m) a' w)(hi:ops[i]?=some oi:=by exact rfl)(hN:oi.dst=some j:=by exact rfl)(hy:∀ w',S w'→(execOp a.eval oi).run P w'=.ok (.value v) w':=by rintro w' ⟨s0,s1,s2,s3⟩;go_simp;with_reducible rfl)
  (hc:takeW T B ds l.toList (bm n m).toList i=true:=by kernel_rfl) (hQ:∀ c a w,Q (.panic c) (a.put oi.dst v) w→Q (.panic c) a w:=by exact fun _ _ _ h=>h)
  (hw:Region.wanted oi (yielded ops a.tmps)=true:=by rfl) (ha:a.put (some j) v=a':=by simp only[Act.put,List.setIfInBounds_toArray,List.set_cons_zero,List.set_cons_succ,i64_w,i32_w];rfl):wpAnyLast P md ops Q S ds (fuel+1) l a w:=pT (bm n m) hi hN hT.out hB.out hS hy h hc hQ hw ha
theorem pU7 (i j n m:Nat) {B:List Nat} (hT:Aside0 (rtab md ops=T))(hB:Aside0 (waitsOk T.2 B=true))(hS:S w)(h:wpAnyLast P md ops Q S ds fuel (bm n m) a' w)(hi:ops[i]?=some oi:=by exact rfl)(hN:oi.dst=some j:=by exact rfl)(hy:∀ w',S w'→(execOp a.eval oi).run P w'=.ok (.value v) w':=by rintro w' ⟨s0,s1,s2,s3,s4,s5,s6⟩;go_simp;with_reducible rfl)
  (hc:takeW T B ds l.toList (bm n m).toList i=true:=by kernel_rfl) (hQ:∀ c a w,Q (.panic c) (a.put oi.dst v) w→Q (.panic c) a w:=by exact fun _ _ _ h=>h)
  (hw:Region.wanted oi (yielded ops a.tmps)=true:=by rfl) (ha:a.put (some j) v=a':=by simp only[Act.put,List.setIfInBounds_toArray,List.set_cons_zero,List.set_cons_succ,i64_w,i32_w];rfl):wpAnyLast P md ops Q S ds (fuel+1) l a w:=pT (bm n m) hi hN hT.out hB.out hS hy h hc hQ hw ha
theorem pU10 (i j n m:Nat) {B:List Nat} (hT:Aside0 (rtab md ops=T))(hB:Aside0 (waitsOk T.2 B=true))(hS:S w)(h:wpAnyLast P md ops Q S ds fuel (bm n m) a' w)(hi:ops[i]?=some oi:=by exact rfl)(hN:oi.dst=some j:=by exact rfl)(hy:∀ w',S w'→(execOp a.eval oi).run P w'=.ok (.value v) w':=by rintro w' ⟨s0,s1,s2,s3,s4,s5,s6,s7,s8,s9⟩;go_simp;with_reducible rfl)
  (hc:takeW T B ds l.toList (bm n m).toList i=true:=by kernel_rfl) (hQ:∀ c a w,Q (.panic c) (a.put oi.dst v) w→Q (.panic c) a w:=by exact fun _ _ _ h=>h)
  (hw:Region.wanted oi (yielded ops a.tmps)=true:=by rfl) (ha:a.put (some j) v=a':=by simp only[Act.put,List.setIfInBounds_toArray,List.set_cons_zero,List.set_cons_succ,i64_w,i32_w];rfl):wpAnyLast P md ops Q S ds (fuel+1) l a w:=pT (bm n m) hi hN hT.out hB.out hS hy h hc hQ hw ha
theorem pU11 (i j n m:Nat) {B:List Nat} (hT:Aside0 (rtab md ops=T))(hB:Aside0 (waitsOk T.2 B=true))(hS:S w)(h:wpAnyLast P md ops Q S ds fuel (bm n m) a' w)(hi:ops[i]?=some oi:=by exact rfl)(hN:oi.dst=some j:=by exact rfl)(hy:∀ w',S w'→(execOp a.eval oi).run P w'=.ok (.value v) w':=by rintro w' ⟨s0,s1,s2,s3,s4,s5,s6,s7,s8,s9,s10⟩;go_simp;with_reducible rfl)
  (hc:takeW T B ds l.toList (bm n m).toList i=true:=by kernel_rfl) (hQ:∀ c a w,Q (.panic c) (a.put oi.dst v) w→Q (.panic c) a w:=by exact fun _ _ _ h=>h)
  (hw:Region.wanted oi (yielded ops a.tmps)=true:=by rfl) (ha:a.put (some j) v=a':=by simp only[Act.put,List.setIfInBounds_toArray,List.set_cons_zero,List.set_cons_succ,i64_w,i32_w];rfl):wpAnyLast P md ops Q S ds (fuel+1) l a w:=pT (bm n m) hi hN hT.out hB.out hS hy h hc hQ hw ha
theorem pU12 (i j n m:Nat) {B:List Nat} (hT:Aside0 (rtab md ops=T))(hB:Aside0 (waitsOk T.2 B=true))(hS:S w)(h:wpAnyLast P md ops Q S ds fuel (bm n m) a' w)(hi:ops[i]?=some oi:=by exact rfl)(hN:oi.dst=some j:=by exact rfl)(hy:∀ w',S w'→(execOp a.eval oi).run P w'=.ok (.value v) w':=by rintro w' ⟨s0,s1,s2,s3,s4,s5,s6,s7,s8,s9,s10,s11⟩;go_simp;with_reducible rfl)
  (hc:takeW T B ds l.toList (bm n m).toList i=true:=by kernel_rfl) (hQ:∀ c a w,Q (.panic c) (a.put oi.dst v) w→Q (.panic c) a w:=by exact fun _ _ _ h=>h)
  (hw:Region.wanted oi (yielded ops a.tmps)=true:=by rfl) (ha:a.put (some j) v=a':=by simp only[Act.put,List.setIfInBounds_toArray,List.set_cons_zero,List.set_cons_succ,i64_w,i32_w];rfl):wpAnyLast P md ops Q S ds (fuel+1) l a w:=pT (bm n m) hi hN hT.out hB.out hS hy h hc hQ hw ha
theorem pX (i j n m:Nat)(hT:Aside0 (rtab md ops=T))(h:wpAnyLast P md ops Q S ds fuel (bm n m) a' w)(hi:ops[i]?=some oi:=by exact rfl)(hN:oi.dst=some j:=by exact rfl)(hc:anyT T l.toList (bm n m).toList i=true:=by kernel_rfl)(hy:Yields P ops oi undef a:=by exact Or.inr ⟨by rfl,rfl⟩)
  (hQ:∀ c a w,Q (.panic c) (a.put oi.dst undef) w→Q (.panic c) a w:=by exact fun _ _ _ h=>h) (ha:a.put (some j) undef=a':=by simp only[Act.put,sP,i64_w,i32_w];rfl):wpAnyLast P md ops Q S ds (fuel+1) l a w:=pure_ (bm n m) hi hN (any_of hT.out hc) hQ hy ha h
theorem bX (N:Tmp)(t:TypeId)(cs:Array Value)
    (h:∀ g,g=W.heap.size→∀ w1,w1.heap[g]?=some (.cells cs t (0,0))→Below W.heap.size W w1→wpList P ops Q rest (a.put o.dst (.pointer (some ⟨g,0,none⟩))) w1) (hd:o.dst=some N:=by exact rfl) (hgd:o.guard=none:=by exact rfl)
    (hrun:(execOp a.eval o).run P W=.ok (.value (.pointer (some ⟨W.heap.size,0,none⟩))) (W.alloc (.cells cs t (0,0))):=by first|(go_simp;done)|(go_simp;rfl)):wpList P ops Q (o::rest) a W:=box_event hgd hd hrun h
theorem gL (N : Tmp) {f : FuncId} {fn : Func} {zs : Array Operand} {ts : Array TypeId} (hf : P.funcs[f]? = some fn) (args : Array Value) (h : Calls P f args w fun e w' => ∃ v, e = .returned v ∧ wpList P ops Q rest (a.put (some N) v) w') (hd : oi.dst = some N := by exact rfl) (hg : oi.guard = none := by exact rfl) (hname : (fn.name == "runtime.NumGoroutine") = false := by kernel_rfl) (hb : fn.body.isSome = true := by exact rfl)
    (hop:oi.op=.call { callee:=.value (.func f),args:=zs,argTypes:=ts }:=by exact rfl) (hargs:zs.map a.eval=args:=by(try simp only[List.map_toArray,List.map_cons,List.map_nil]);first|done|rfl|(simp only[List.length_drop,List.length_take];rfl)):wpList P ops Q (oi::rest) a w:=goesL_ (some N) hd hg hf hname hb args hop hargs h
theorem gD (N:Tmp)(_hN:o.dst=some N)(h:wpList P ops Q (o::rest) a W):wpList P ops Q (o::rest) a W:=h
end
theorem c10 {w:World} {g:Nat} {t:TypeId} {a0 a1 a2 a3 a4 a5 a6 a7 a8 a9:Value} {p:Prop} (h:Aside0 (w.heap[g]?=some (.cells #[a0,a1,a2,a3,a4,a5,a6,a7,a8,a9] t (0,0))))(x:p):w.cell? ⟨g,0,none⟩=some a0∧w.cell? ⟨g,1,none⟩=some a1∧w.cell? ⟨g,2,none⟩=some a2∧w.cell? ⟨g,3,none⟩=some a3∧w.cell? ⟨g,4,none⟩=some a4∧w.cell? ⟨g,5,none⟩=some a5∧w.cell? ⟨g,6,none⟩=some a6∧w.cell? ⟨g,7,none⟩=some a7∧w.cell? ⟨g,8,none⟩=some a8∧w.cell? ⟨g,9,none⟩=some a9∧p:=⟨(blk_cell h.out 0).trans rfl,(blk_cell h.out 1).trans rfl,(blk_cell h.out 2).trans rfl,(blk_cell h.out 3).trans rfl,(blk_cell h.out 4).trans rfl,(blk_cell h.out 5).trans rfl,(blk_cell h.out 6).trans rfl,(blk_cell h.out 7).trans rfl,(blk_cell h.out 8).trans rfl,(blk_cell h.out 9).trans rfl,x⟩
abbrev aT (a b c d e f g h:Int) (i:Bool) (A:Option Addr) (n m:Nat):Array Value:=#[.int .i64 a,.int .i64 b,.int .i64 c,.int .i64 d,.int .i64 e,.int .i64 f,.int .i64 g,.int .i64 h,.bool i,.slice A n m]
section
variable {P : Program} {ops : Array Oper} {Q : Exit → Act → World → Prop} {md : Region.Mode} {ds : List Nat} {T : Bool × List (List Nat × List Nat)} {oi : Oper} {v : Value} {fuel : Nat} {l : Array Bool} {a a' : Act} {w W : World}
theorem sT (n:Nat)(ds:List Nat)(S:World→Prop) {id:Nat} {B:List Nat} (hT:rtab .any ops=T)(hB:waitsOk T.2 B=true)(hS:S w.drew)(h:S w.drew→Aside0 (rtab .any ops=T)→Aside0 (waitsOk T.2 B=true)→wpAnyLast P .any ops Q S ds n (bm n 0) a w.drew)
  (hm:P.follows .mixedOrders=true:=by kernel_rfl) (hn:ops.size=n:=by exact rfl) (hl:Array.replicate n false=bm n 0:=by exact rfl):(Code.region id ops true).wp P Q a w:=start_ (bm n 0) hm hn hl hS (fun h0=>h h0 ⟨hT⟩ ⟨hB⟩)
theorem oN (i j n m:Nat) {S:World→Prop} (hT:Aside0 (rtab md ops=T))(h:∀ K:Act→World→Prop,Shut (∀ a' w',S w'→(S w'→wpAnyLast P md ops Q S ds fuel (bm n m) a' w')→K a' w')→if Region.wanted oi (yielded ops a.tmps)=true then Oper.wp P oi a w K Q else K (a.put (some j) undef) w)
  (hi:ops[i]?=some oi:=by exact rfl) (hN:oi.dst=some j:=by exact rfl) (hc:(readyT T.2 l.toList==[i] && l.toList.set i true==(bm n m).toList)=true:=by kernel_rfl) (hd:i ∉ ds:=by decide):wpAnyLast P md ops Q S ds (fuel+1) l a w:=one_ (bm n m) hi hN (one_of hT.out hc) hd h
theorem dN {S:World→Prop} {n:Nat} (hT:Aside0 (rtab md ops=T))(h:Q .normal a w)(hr:(readyT T.2 l.toList==[])=true:=by kernel_rfl):wpAnyLast P md ops Q S ds n l a w:=done_ (done_of hT.out hr) h
theorem gS {N:Option Tmp} {K:Act→World→Prop} {f:FuncId} {fn:Func} {zs:Array Operand} {ts:Array TypeId} (hf:P.funcs[f]?=some fn)(args:Array Value)(h:Calls P f args w fun e w'=>∃ v,e=.returned v∧K (a.put N v) w')(hw:Region.wanted oi (yielded ops a.tmps)=true:=by rfl)(hN:oi.dst=N:=by exact rfl)
  (hop : oi.op = .call { callee := .value (.func f), args := zs, argTypes := ts } := by exact rfl) (hname : (fn.name == "runtime.NumGoroutine") = false := by kernel_rfl) (hb : fn.body.isSome = true := by exact rfl) (hargs : zs.map a.eval = args := by (try simp only [List.map_toArray, List.map_cons, List.map_nil]); first | done | rfl | (simp only [List.length_drop, List.length_take]; rfl)) :
  if Region.wanted oi (yielded ops a.tmps)=true then Oper.wp P oi a w K Q else K (a.put N undef) w:=goes_ hf hname hb args hw hN hop hargs h
end
theorem pW {p:Prop} (h:p:=by repeat(first|exact Drawn0.refl _|apply Drawn0.step)):p:=h
theorem fT:¬ (false=true):=by decide
section
variable {P : Program} {ops : Array Oper} {Q : Exit → Act → World → Prop} {md : Region.Mode} {ds : List Nat} {fuel : Nat} {l : Array Bool} {a a' : Act} {w : World}
theorem nM (j:Nat) {S:World→Prop} {b:Act} {v:Value} (h:wpAnyLast P md ops Q S ds fuel l a' w)(hb:Act.put b (some j) v=a':=by simp only[Act.put,sP,i64_w,i32_w];rfl):wpAnyLast P md ops Q S ds fuel l (Act.put b (some j) v) w:=norm_ hb h
end
abbrev TT:=Bool×List (List Nat×List Nat)
section
variable {P : Program} {ops : Array Oper} {Q : Exit → Act → World → Prop} {o : Oper} {rest : List Oper} {a : Act} {W : World}
theorem gC (f:FuncId) {zs:Array Operand} {ts:Array TypeId} (_ho:o.op=.call { callee:=.value (.func f),args:=zs,argTypes:=ts })(h:wpList P ops Q (o::rest) a W):wpList P ops Q (o::rest) a W:=h
end
def fbq.f (a0 a1:Int):Option (Bool):=if a0 ≥ (-1048576)then(if a0≤1048576 then(if a1 ≥ 1 then(some (decide (a1≤1048576)))else(some false))else(some false))else(some false)
theorem fbq.calls (a0 a1:Int)(r:Bool)(w:World)(h:fbq.f a0 a1=some r) :
  Calls Try.prog 28 #[.int .i64 a0,.int .i64 a1] w fun e w'=>e=.returned (.bool r)∧Drawn0 w w':=by
 have H:(if a0 ≥ (-1048576)then(if a0≤1048576 then(if a1 ≥ 1 then(some (decide (a1≤1048576)))else(some false))else(some false))else(some false))=some r:=h
 clear h
 by_cases c3:a0 ≥ (-1048576)
 rotate_left
 ·rw[iN c3] at H
  have ya:decide ((-1048576)≤a0)=false:=decide_eq_false c3
  clear c3
  obtain rfl:=Option.some.inj H
  go_enter Try.func28,Try.ntmps28
  go_wp2
  go_ret
  exact⟨pF,pW⟩
 rw[ip c3] at H
 have ya:decide ((-1048576)≤a0)=true:=decide_eq_true c3
 clear c3
 by_cases c4:a0≤1048576
 rotate_left
 ·rw[iN c4] at H
  have yb:=dF c4
  clear c4
  obtain rfl:=Option.some.inj H
  go_enter Try.func28,Try.ntmps28
  go_wp2
  go_ret
  exact⟨pF,pW⟩
 rw[ip c4] at H
 have yb:=dT c4
 clear c4
 by_cases c5:a1 ≥ 1
 ·rw[ip c5] at H
  have yc:decide (1≤a1)=true:=decide_eq_true c5
  clear c5
  obtain rfl:=Option.some.inj H
  go_enter Try.func28,Try.ntmps28
  go_wp2
  go_ret
  exact⟨pF,pW⟩
 rw[iN c5] at H
 have yc:decide (1≤a1)=false:=decide_eq_false c5
 clear c5
 obtain rfl:=Option.some.inj H
 go_enter Try.func28,Try.ntmps28
 go_wp2
 go_ret
 exact⟨pF,pW⟩
def fcb.f (a0:Int):Option (Bool):=if a0 ≥ 1 then(some (decide (a0≤40)))else(some false)
theorem fcb.calls (a0:Int)(r:Bool)(w:World)(h:fcb.f a0=some r) :
  Calls Try.prog 50 #[.int .i64 a0] w fun e w'=>e=.returned (.bool r)∧Drawn0 w w':=by
 have H:(if a0 ≥ 1 then(some (decide (a0≤40)))else(some false))=some r:=h
 clear h
 by_cases c2:a0 ≥ 1
 ·rw[ip c2] at H
  have ya:decide (1≤a0)=true:=decide_eq_true c2
  clear c2
  obtain rfl:=Option.some.inj H
  go_enter Try.func50,Try.ntmps50
  go_wp2
  go_ret
  exact⟨pF,pW⟩
 rw[iN c2] at H
 have ya:decide (1≤a0)=false:=decide_eq_false c2
 clear c2
 obtain rfl:=Option.some.inj H
 go_enter Try.func50,Try.ntmps50
 go_wp2
 go_ret
 exact⟨pF,pW⟩
def fbp.j0:Nat→Int→Int→Bool→Int→Int→Int→Int→Int→Int→Int→Int→Bool→List Int→Option (Bool)
 | 0,_,_,_,_,_,_,_,_,_,_,_,_,_=>none
 | k+1,x0,x5,x16,x925000,x925001,x925002,x925003,zc,zd,zg,zh,x925008,x925009=>if x16=true then((fbq.f zc zd).bind fun zj=>(some zj))else(if x5=15 then((fbq.f zc zd).bind fun zk=>(if zk=true then((fbq.f zg zh).bind fun zl=>(if zl=true then(some (decide ((wrap64 (zc*zh))≤(wrap64 (zg*zd)))))else(some false)))else(some false)))else((fcb.f x0).bind fun zm=>(some zm)))
def fbp.f (k:Nat) (a0 yc yg yh yi ya yb ye yf:Int)(yj:Bool)(yd:List Int):Option (Bool):=if a0=12 then(if yc ≥ (-8)then(some (decide (yc≤8)))else(some false))else(if a0=13 then(fbp.j0 k a0 a0 (a0==13) yc yg yh yi ya yb ye yf yj yd)else(if a0=14 then(fbp.j0 k a0 a0 (a0==14) yc yg yh yi ya yb ye yf yj yd)else(fbp.j0 k a0 a0 (a0==16) yc yg yh yi ya yb ye yf yj yd)))
theorem fbp.calls (k:Nat) (a0 yc yg yh yi ya yb ye yf:Int)(yj:Bool)(yl:Option Addr)(ym:Nat)(yd:List Int)(r:Bool)(w:World)(yn:Kd.C (Kd.int .i64) w yl yd.length yd)(yo:yd.length≤ym)(h:fbp.f k a0 yc yg yh yi ya yb ye yf yj yd=some r) :
  Calls Try.prog 26 #[.int .i64 a0,.agg #[.int .i64 yc,.int .i64 yg,.int .i64 yh,.int .i64 yi,.int .i64 ya,.int .i64 yb,.int .i64 ye,.int .i64 yf,.bool yj,.slice yl yd.length ym]] w fun e w'=>e=.returned (.bool r)∧Below w.heap.size w w':=by
 have hu24:=Try.underlying24
 have HR1_9:=aM yn
 have HC1_9:=aM yo
 clear yn yo
 have HB:=aM (Below.refl w.heap.size w)
 have H:(if a0=12 then(if yc ≥ (-8)then(some (decide (yc≤8)))else(some false))else(if a0=13 then(fbp.j0 k a0 a0 (a0==13) yc yg yh yi ya yb ye yf yj yd)else(if a0=14 then(fbp.j0 k a0 a0 (a0==14) yc yg yh yi ya yb ye yf yj yd)else(fbp.j0 k a0 a0 (a0==16) yc yg yh yi ya yb ye yf yj yd))))=some r:=h
 clear h
 by_cases c3:a0=12
 ·rw[ip c3] at H
  have zn:=bT c3
  have zo:=nF c3
  clear c3
  by_cases c4:yc ≥ (-8)
  ·rw[ip c4] at H
   have yu:decide ((-8)≤yc)=true:=decide_eq_true c4
   clear c4
   obtain rfl:=Option.some.inj H
   go_enter Try.func26,Try.ntmps26
   go_wp2_with (first|((with_reducible refine gD 3 rfl ?_);refine bX 3 24 (aT yc yg yh yi ya yb ye yf yj yl yd.length ym) ?_;intro zi hg w5 hbox hb;have za:=aM (hbox);have ze:=gE (w:=w) hg (qB HB);have zb:=ze;replace HB:=bS (qB HB) hb;clear hb hbox hg;have hcz6:=blk10 za.out))
   go_ret
   exact⟨pE,qB1 HB zb⟩
  rw[iN c4] at H
  have yu:decide ((-8)≤yc)=false:=decide_eq_false c4
  clear c4
  obtain rfl:=Option.some.inj H
  go_enter Try.func26,Try.ntmps26
  go_wp2_with (first|((with_reducible refine gD 3 rfl ?_);refine bX 3 24 (aT yc yg yh yi ya yb ye yf yj yl yd.length ym) ?_;intro zi hg w7 hbox hb;have za:=aM (hbox);have ze:=gE (w:=w) hg (qB HB);have zb:=ze;replace HB:=bS (qB HB) hb;clear hb hbox hg;have hcz8:=blk10 za.out))
  go_ret
  exact⟨pE,qB1 HB zb⟩
 rw[iN c3] at H
 have zn:=bF c3
 have zo:=nT c3
 have HC9:=aM H
 clear H
 go_enter Try.func26,Try.ntmps26
 go_upto_if 16 with(first|((with_reducible refine gD 3 rfl ?_);refine bX 3 24 (aT yc yg yh yi ya yb ye yf yj yl yd.length ym) ?_;intro zi hg w10 hbox hb;have za:=aM (hbox);have ze:=gE (w:=w) hg (qB HB);have zb:=ze;replace HB:=bS (qB HB) hb;clear hb hbox hg))
 (try simp only[Act.put,sP])
 go_cut [16] (fun v16 wc=>∃ (kq:Nat) (yk:Bool),v16=.bool yk∧Aside0 (fbp.j0 kq a0 a0 yk yc yg yh yi ya yb ye yf yj yd=some r)∧Aside0 (kq≤k)∧Aside0 (wc.heap[zi]?=some (.cells (aT yc yg yh yi ya yb ye yf yj yl yd.length ym) 24 (0,0)))∧Aside0 (Below w.heap.size w wc))
 case first =>
  have H:=HC9.out
  clear HC9
  by_cases c11:a0=13
  ·rw[ip c11] at H
   have zf:=bT c11
   have yp:=nF c11
   clear c11
   (first|rw[zf]|(simp only[i64_w,i32_w];rw[zf])|skip)
   have H':=aM H
   clear H
   go_wp2
   go_meet
   case rel=>exact⟨_,((a0==13)),(pF),H',⟨pO⟩,⟨pK za.out⟩,⟨qB1 HB zb⟩⟩
  rw[iN c11] at H
  have zf:=bF c11
  have yp:=nT c11
  (first|rw[zf]|(simp only[i64_w,i32_w];rw[zf])|skip)
  by_cases c12:a0=14
  rotate_left
  ·rw[iN c12] at H
   have yq:=bF c12
   have yr:=nT c12
   have H':=aM H
   clear H
   go_wp2
   go_meet
   case rel=>exact⟨_,((a0==16)),(pF),H',⟨pO⟩,⟨pK za.out⟩,⟨qB1 HB zb⟩⟩
  rw[ip c12] at H
  have yq:=bT c12
  have yr:=nF c12
  clear c12
  have H':=aM H
  clear H
  go_wp2
  go_meet
  case rel=>exact⟨_,((a0==14)),(pF),H',⟨pO⟩,⟨pK za.out⟩,⟨qB1 HB zb⟩⟩
 clear HC9
 try clear c3
 try clear zn
 try clear zo
 obtain⟨kq,yk,rfl,HA,HJ8,za,HB⟩:=hcut
 cases kq with
 | zero=>exact absurd HA.out (by simp[fbp.j0])
 | succ kj8=>?_
 have H:=HA.out
 clear HA
 simp only[fbp.j0] at H
 by_cases c13:yk=true
 ·subst c13
  rw[ip rfl] at H
  replace H:=oB H
  obtain⟨zj,zp,H⟩:=H
  try dsimp only at H
  have A14:=aM zp
  clear zp
  obtain rfl:=Option.some.inj H
  have hcz15:=blk10 za.out
  go_wp2_with (first|((with_reducible refine gC 28 rfl ?_);refine gL 24 Try.func28 #[.int .i64 ya,.int .i64 yb] ?_;(with_reducible refine(fbq.calls ya yb zj _ A14.out).mono ?_);rintro e w' ⟨rfl,⟨nd,rfl⟩⟩;refine⟨_,rfl,?_⟩))
  go_ret
  exact⟨pE,qB1 HB zb⟩
 replace c13:=Bool.eq_false_iff.mpr c13
 subst c13
 rw[iN fT] at H
 by_cases c16:a0=15
 rotate_left
 ·rw[iN c16] at H
  have ys:=bF c16
  have yt:=nT c16
  replace H:=oB H
  obtain⟨zm,zq,H⟩:=H
  try dsimp only at H
  have A24:=aM zq
  clear zq
  obtain rfl:=Option.some.inj H
  go_wp2_with (first|((with_reducible refine gC 50 rfl ?_);refine gL 53 Try.func50 #[.int .i64 a0] ?_;(with_reducible refine(fcb.calls a0 zm _ A24.out).mono ?_);rintro e w' ⟨rfl,⟨nd,rfl⟩⟩;refine⟨_,rfl,?_⟩))
  go_ret
  exact⟨pE,qB1 HB zb⟩
 rw[ip c16] at H
 have ys:=bT c16
 have yt:=nF c16
 clear c16
 replace H:=oB H
 obtain⟨zk,zr,H⟩:=H
 try dsimp only at H
 have A17:=aM zr
 clear zr
 by_cases c18:zk=true
 rotate_left
 ·replace c18:=Bool.eq_false_iff.mpr c18
  subst c18
  rw[iN fT] at H
  obtain rfl:=Option.some.inj H
  have hcz23:=blk10 za.out
  go_wp2_with (first|((with_reducible refine gC 28 rfl ?_);refine gL 31 Try.func28 #[.int .i64 ya,.int .i64 yb] ?_;(with_reducible refine(fbq.calls ya yb false _ A17.out).mono ?_);rintro e w' ⟨rfl,⟨nd,rfl⟩⟩;refine⟨_,rfl,?_⟩))
  go_ret
  exact⟨pE,qB1 HB zb⟩
 subst c18
 rw[ip rfl] at H
 replace H:=oB H
 obtain⟨zl,zs,H⟩:=H
 try dsimp only at H
 have A19:=aM zs
 clear zs
 by_cases c20:zl=true
 ·subst c20
  rw[ip rfl] at H
  obtain rfl:=Option.some.inj H
  have hcz21:=blk10 za.out
  go_wp2_with (first|((with_reducible refine gC 28 rfl ?_);refine gL 31 Try.func28 #[.int .i64 ya,.int .i64 yb] ?_;(with_reducible refine(fbq.calls ya yb true _ A17.out).mono ?_);rintro e w' ⟨rfl,⟨nd,rfl⟩⟩;refine⟨_,rfl,?_⟩)|(go_at_call 28;(with_reducible refine(fbq.calls ye yf true _ A19.out).mono ?_);rintro e w' ⟨rfl,⟨nd,rfl⟩⟩))
  go_ret
  exact⟨pE,qB1 HB zb⟩
 replace c20:=Bool.eq_false_iff.mpr c20
 subst c20
 rw[iN fT] at H
 obtain rfl:=Option.some.inj H
 have hcz22:=blk10 za.out
 go_wp2_with (first|((with_reducible refine gC 28 rfl ?_);refine gL 31 Try.func28 #[.int .i64 ya,.int .i64 yb] ?_;(with_reducible refine(fbq.calls ya yb true _ A17.out).mono ?_);rintro e w' ⟨rfl,⟨nd,rfl⟩⟩;refine⟨_,rfl,?_⟩)|(go_at_call 28;(with_reducible refine(fbq.calls ye yf false _ A19.out).mono ?_);rintro e w' ⟨rfl,⟨nd,rfl⟩⟩))
 go_ret
 exact⟨pE,qB1 HB zb⟩
theorem GrW.rd_get (l:List Int)(k:Nat)(h:k<l.length):rd l (k:Int)=l[k]:=by
  simp[rd,List.getD_eq_getElem?_getD,List.getElem?_eq_getElem h]
theorem GrW.rd_pos (l:List Int)(k:Nat)(h:k<l.length)(hp:∀ x∈l,1≤x):1≤rd l (k:Int):=by
  rw[GrW.rd_get l k h];exact hp _ (List.getElem_mem h)
theorem GrW.chk_8 (l:List Int)(h6:¬ 6<l.length)(k:Nat)(h:k<l.length)(h1:rd l (k:Int)<1):G.chk l=8:=by
  rw[GrW.rd_get l k h] at h1
  unfold G.chk
  rw[iN h6,ip]
  rw[List.any_eq_true]
  exact⟨l[k],List.getElem_mem h,by simpa using h1⟩
theorem GrW.all_succ (l:List Int)(k:Nat)(h:k<l.length)(ha:∀ x∈l.take k,1≤x)(h1:¬ rd l (k:Int)<1):∀ x∈l.take (k+1),1≤x:=by
  rw[GrW.rd_get l k h] at h1
  intro x hx
  rw[List.take_succ_eq_append_getElem h,List.mem_append] at hx
  rcases hx with hx|hx
  · exact ha x hx
  · simp at hx;omega
theorem GrW.prod_take_rd (l:List Int)(k:Nat)(h:k<l.length):G.prod (l.take (k+1))=G.prod (l.take k)*rd l (k:Int):=by
  rw[GrW.rd_get l k h];exact G.prod_take_succ l k h
theorem GrW.any_false (l:List Int)(hp:∀ x∈l,1≤x):(l.any fun x=>decide (x<1))=false:=by
  rw[List.any_eq_false]
  intro x hx
  have:=hp x hx
  simp;omega
theorem GrW.chk_0 (l:List Int)(h6:¬ 6<l.length)(hp:∀ x∈l,1≤x)(h:G.prod l≤64):G.chk l=0:=by
  unfold G.chk
  rw[iN h6,GrW.any_false l hp,iN (by simp),iN (by omega)]
theorem GrW.chk_12 (l:List Int)(h6:¬ 6<l.length)(hp:∀ x∈l,1≤x)(k:Nat)(h:k<l.length)(h2:64 / G.prod (l.take k)<rd l (k:Int)):G.chk l=12:=by
  have h1:=G.prod_pos (l.take k) (fun x hx=>hp x (List.mem_of_mem_take hx))
  have h3:64<rd l (k:Int)*G.prod (l.take k):=(Int.ediv_lt_iff_lt_mul (by omega)).1 h2
  have h4:=G.prod_take_le l hp (k+1)
  rw[GrW.prod_take_rd l k h,Int.mul_comm] at h4
  unfold G.chk
  rw[iN h6,GrW.any_false l hp,iN (by simp),ip (by omega)]
theorem GrW.mul_le_of_div (l:List Int)(k:Nat)(h1:1≤G.prod (l.take k))(h:rd l (k:Int)≤64 / G.prod (l.take k)):G.prod (l.take k)*rd l (k:Int)≤64:=by
  have:=(Int.le_ediv_iff_mul_le (by omega)).1 h
  rw[Int.mul_comm];exact this
def fcg.f (l0:List Int):Option Int:=some (G.chk l0)
theorem fcg.calls (A0:Option Addr)(c0:Nat)(l0:List Int)(r:Int)(w:World)(hr0:Kd.C (Kd.int .i64) w A0 l0.length l0)(hc0:l0.length≤c0)(h:fcg.f l0=some r) :
    Calls Try.prog 31 #[.slice A0 l0.length c0] w fun e w'=>e=.returned (.int .i64 r)∧Drawn0 w w':=by
  have HR0:=Aside0.mk hr0
  clear hr0 hc0
  obtain rfl:=Option.some.inj h
  clear h
  by_cases h6:6<l0.length
  · have h6b:decide (6<l0.length)=true:=decide_eq_true h6
    have h6c:decide (6<(l0.length:Int))=true:=decide_eq_true (by omega)
    have hr:G.chk l0=9:=by simp[G.chk,h6]
    have HH:=Aside0.mk hr
    clear hr
    go_enter Try.func31,Try.ntmps31
    go_wp2
    go_step3
    go_wp2
    try rw[Exit.noGoto_ret]
    go_ret
    exact⟨by rw[HH.out];rfl,Drawn0.refl _⟩
  · have h6b:decide (6<l0.length)=false:=decide_eq_false h6
    have h6c:decide (6<(l0.length:Int))=false:=decide_eq_false (by omega)
    have hlen:(l0.length:Int)≤6:=by omega
    go_enter Try.func31,Try.ntmps31
    go_wp2
    go_step3
    go_wp2
    go_loop [13] (fun i=>∃ k:Nat,k≤l0.length∧i=.int .i64 k∧Aside0 (∀ x∈l0.take k,1≤x)) (fun i=>l0.length-(intOf i).toNat)
    case atStart=>exact⟨0,by omega,rfl,⟨by simp⟩⟩
    case round =>
      obtain⟨k,hk,rfl,HA⟩:=hrel
      by_cases hlt:k<l0.length
      · have hb:decide ((k:Int)<(l0.length:Int))=true:=decide_eq_true (by omega)
        obtain⟨ad,e,hx⟩:=Kd.at_int HR0.out (k:Int) (by omega) (by omega)
        cases e
        rw[Int.toNat_natCast] at hx
        by_cases h1:rd l0 (k:Int)<1
        · have h1b:decide (rd l0 (k:Int)<1)=true:=decide_eq_true h1
          have HH:Aside0 (G.chk l0=8):=Aside0.mk (GrW.chk_8 l0 h6 k hlt h1)
          go_wp2
          try rw[Exit.noGoto_ret]
          go_ret
          exact⟨by rw[HH.out];rfl,Drawn0.refl _⟩
        · have h1b:decide (rd l0 (k:Int)<1)=false:=decide_eq_false h1
          have HA1:=Aside0.mk (GrW.all_succ l0 k hlt HA.out h1)
          go_wp2
          go_round
          case measure=>simp[intOf];omega
          case rel=>exact⟨k+1,by omega,by go_num,HA1⟩
      · have hb:decide ((k:Int)<(l0.length:Int))=false:=decide_eq_false (by omega)
        have HP:Aside0 (∀ x∈l0,1≤x):=⟨by have:=HA.out;rwa [List.take_of_length_le (by omega)] at this⟩
        clear HA
        go_wp2
        go_step3
        go_wp2
        go_loop [5,22] (fun n i=>∃ k:Nat,k≤l0.length∧i=.int .i64 k∧n=.int .i64 (G.prod (l0.take k))∧G.prod (l0.take k)≤64) (fun n i=>l0.length-(intOf i).toNat)
        case atStart=>exact⟨0,by omega,rfl,rfl,by simp[G.prod]⟩
        case round =>
          obtain⟨k,hk,rfl,rfl,h64⟩:=hrel
          have hp1:=G.prod_pos (l0.take k) (fun x hx=>HP.out x (List.mem_of_mem_take hx))
          by_cases hlt:k<l0.length
          · have hb:decide ((k:Int)<(l0.length:Int))=true:=decide_eq_true (by omega)
            obtain⟨ad,e,hx⟩:=Kd.at_int HR0.out (k:Int) (by omega) (by omega)
            cases e
            rw[Int.toNat_natCast] at hx
            have hs:=Aside0.mk (GrW.prod_take_rd l0 k hlt)
            have hx1:1≤rd l0 (k:Int):=GrW.rd_pos l0 k hlt HP.out
            by_cases h1:rd l0 (k:Int)=1
            · have h1b:(rd l0 (k:Int)==1)=true:=by rw[h1];rfl
              have ya:Aside0 (G.prod (l0.take (k+1))=G.prod (l0.take k)):=Aside0.mk (by rw[hs.out,h1];omega)
              clear h1
              go_wp2
              go_round
              case measure=>simp[intOf];omega
              case rel=>exact⟨k+1,by omega,by go_num,by rw[ya.out],by rw[ya.out];exact h64⟩
            · have h1b:(rd l0 (k:Int)==1)=false:=beq_eq_false_iff_ne.mpr h1
              by_cases h2:64 / G.prod (l0.take k)<rd l0 (k:Int)
              · have h2b:decide (64 / G.prod (l0.take k)<rd l0 (k:Int))=true:=decide_eq_true h2
                have HH:Aside0 (G.chk l0=12):=Aside0.mk (GrW.chk_12 l0 h6 HP.out k hlt h2)
                go_wp2
                try rw[Exit.noGoto_ret]
                go_ret
                exact⟨by rw[HH.out];rfl,Drawn0.refl _⟩
              · have h2b:decide (64 / G.prod (l0.take k)<rd l0 (k:Int))=false:=decide_eq_false h2
                have h3:=GrW.mul_le_of_div l0 k hp1 (by omega:rd l0 (k:Int)≤64 / G.prod (l0.take k))
                have h4:0≤G.prod (l0.take k)*rd l0 (k:Int):=Int.mul_nonneg (by omega) (by omega)
                go_wp2
                go_round
                case measure=>simp[intOf];omega
                case rel=>exact⟨k+1,by omega,by go_num,by rw[hs.out],by rw[hs.out];exact h3⟩
          · have hb:decide ((k:Int)<(l0.length:Int))=false:=decide_eq_false (by omega)
            have HH:Aside0 (G.chk l0=0):=Aside0.mk (GrW.chk_0 l0 h6 HP.out (by rwa [List.take_of_length_le (by omega)] at h64))
            go_wp2
            try rw[Exit.noGoto_ret]
            go_ret
            exact⟨by rw[HH.out];rfl,Drawn0.refl _⟩
def fcs.f (l0:List Int)(a1:Int):Option (Int):=if a1 > (l0.length:Int)then(some 1)else(if 0≤(wrap64 ((l0.length:Int)-a1))then(if(wrap64 ((l0.length:Int)-a1))<(l0.length:Int)then(some (rd l0 (wrap64 ((l0.length:Int)-a1))))else(none))else(none))
theorem fcs.calls (A0:Option Addr)(c0:Nat)(l0:List Int)(a1 r:Int)(w:World)(hr0:Kd.C (Kd.int .i64) w A0 l0.length l0)(hc0:l0.length≤c0)(h:fcs.f l0 a1=some r) :
  Calls Try.prog 92 #[.slice A0 l0.length c0,.int .i64 a1] w fun e w'=>e=.returned (.int .i64 r)∧Drawn0 w w':=by
 have HR0:=aM hr0
 have HC0:=aM hc0
 clear hr0 hc0
 have H:(if a1 > (l0.length:Int)then(some 1)else(if 0≤(wrap64 ((l0.length:Int)-a1))then(if(wrap64 ((l0.length:Int)-a1))<(l0.length:Int)then(some (rd l0 (wrap64 ((l0.length:Int)-a1))))else(none))else(none)))=some r:=h
 clear h
 by_cases c3:a1 > (l0.length:Int)
 ·rw[ip c3] at H
  have ya:decide ((l0.length:Int)<a1)=true:=decide_eq_true c3
  clear c3
  obtain rfl:=Option.some.inj H
  go_enter Try.func92,Try.ntmps92
  go_wp2
  go_ret
  exact⟨pF,pW⟩
 rw[iN c3] at H
 have ya:decide ((l0.length:Int)<a1)=false:=decide_eq_false c3
 clear c3
 obtain⟨ji4,hji4⟩:∃ j_:Int,(wrap64 ((l0.length:Int)-a1))=j_:=⟨_,rfl⟩
 replace H:(if 0≤(ji4)then(if(ji4)<(l0.length:Int)then(some (rd l0 (ji4)))else(none))else(none))=some r:=by first|(rw[hji4] at H;exact H)|(simp only[hji4] at H ⊢;exact H)
 have hji4w:(IntKind.i64.wrap ((l0.length:Int)-a1))=ji4:=(i64_w _).trans hji4
 by_cases c5:0≤(ji4)
 rotate_left
 ·rw[iN c5] at H
  cases H
 rw[ip c5] at H
 have c5b0:=dT c5
 clear c5
 by_cases c6:(ji4)<(l0.length:Int)
 rotate_left
 ·rw[iN c6] at H
  cases H
 rw[ip c6] at H
 have c6b0:=dT c6
 clear c6
 obtain rfl:=Option.some.inj H
 obtain⟨ad194,⟨⟩,hx194_0,p194,q194⟩:=zI HR0.out (ji4)
 go_enter Try.func92,Try.ntmps92
 go_wp2
 go_ret
 exact⟨by first|rfl|(simp;done)|(simp only[← hji4] <;> (first|rfl|simp))|(simp[*];done),pW⟩
mutual
def fcr.l0:Nat→List Int→List Int→List (List Int)→Int→Int→Option (List Int×Int)
 | 0,_,_,_,_,_=>none
 | k+1,x0,x1,x17,x18,x19=>if x19<x18 then(if 0≤x19 then(if x19<(x17.length:Int)then((fcg.f (rd_L1 x17 x19)).bind fun zj=>(if zj=0 then(fcr.l0 k x0 x1 x17 x18 (wrap64 (x19+1)))else(some (([]:List Int),zj))))else(none))else(none))else(if 0≤(mx (x0.length:Int) (x1.length:Int))then(if(mx (x0.length:Int) (x1.length:Int):Int).toNat≤35184372088832 then(fcr.l1 k x0 x1 (mx (x0.length:Int) (x1.length:Int)) (List.replicate (mx (x0.length:Int) (x1.length:Int):Int).toNat 0) 1)else(none))else(none))
def fcr.l1:Nat→List Int→List Int→Int→List Int→Int→Option (List Int×Int)
 | 0,_,_,_,_,_=>none
 | k+1,x0,x1,x9,x10,x11=>if x11≤x9 then((fcs.f x0 x11).bind fun zd=>((fcs.f x1 x11).bind fun ze=>(if zd=ze then(if 0≤(wrap64 (x9-x11))then(if(wrap64 (x9-x11))<(x10.length:Int)then(fcr.l1 k x0 x1 x9 (x10.set ((wrap64 (x9-x11)):Int).toNat (mx zd ze)) (wrap64 (x11+1)))else(none))else(none))else(if zd=1 then(if 0≤(wrap64 (x9-x11))then(if(wrap64 (x9-x11))<(x10.length:Int)then(fcr.l1 k x0 x1 x9 (x10.set ((wrap64 (x9-x11)):Int).toNat (mx zd ze)) (wrap64 (x11+1)))else(none))else(none))else(if ze=1 then(if 0≤(wrap64 (x9-x11))then(if(wrap64 (x9-x11))<(x10.length:Int)then(fcr.l1 k x0 x1 x9 (x10.set ((wrap64 (x9-x11)):Int).toNat (mx zd ze)) (wrap64 (x11+1)))else(none))else(none))else(some (([]:List Int),8)))))))else((fcg.f x10).bind fun zk=>(if zk=0 then(some (x10,0))else(some (([]:List Int),zk))))
end
def fcr.f (k:Nat) (l0 l1:List Int):Option (List Int×Int):=(some (([l0,l1]:List (List Int)):List (List Int))).bind fun zf=>(fcr.l0 k l0 l1 zf (zf.length:Int) 0)
theorem fcr.calls (k:Nat)(P0_:Nat→Prop)(A0:Option Addr)(c0:Nat)(l0:List Int)(P1_:Nat→Prop)(A1:Option Addr)(c1:Nat)(l1 r1:List Int)(r2:Int)(w:World)(hs0:Kd.V (Kd.int .i64) 3 w w.heap.size (fun k_=>P0_ k_) (.slice A0 l0.length c0) l0)(hs1:Kd.V (Kd.int .i64) 3 w w.heap.size (fun k_=>P1_ k_) (.slice A1 l1.length c1) l1)(h:fcr.f k l0 l1=some (r1,r2)) :
  Calls Try.prog 75 #[.slice A0 l0.length c0,.slice A1 l1.length c1] w fun e w'=>∃ v0_:Value,e=.returned (.tuple #[v0_,.int .i64 r2])∧Kd.R (Kd.int .i64) 3 w' w.heap.size (fun k_=>(w.heap.size≤k_)) v0_ r1∧Below w.heap.size w w':=by
 have HO0:=aM (show Kd.V (Kd.int .i64) 3 w w.heap.size (fun k_=>((P0_ k_∨P1_ k_)∨w.heap.size≤k_)) (.slice A0 l0.length c0) l0 from Kd.V_mono hs0 (fun k_ hk=>.inl (.inl hk)))
 have HO1:=aM (show Kd.V (Kd.int .i64) 3 w w.heap.size (fun k_=>((P0_ k_∨P1_ k_)∨w.heap.size≤k_)) (.slice A1 l1.length c1) l1 from Kd.V_mono hs1 (fun k_ hk=>.inl (.inr hk)))
 have HB:=aM (Below.refl w.heap.size w)
 have H:((some (([l0,l1]:List (List Int)):List (List Int))).bind fun zf=>(fcr.l0 k l0 l1 zf (zf.length:Int) 0))=some (r1,r2):=h
 clear h
 obtain⟨zf,zm⟩:∃ y_:List (List Int),y_=(([l0,l1]:List (List Int))):=⟨_,rfl⟩
 replace H:(fcr.l0 k l0 l1 zf (zf.length:Int) 0)=some (r1,r2):=pH zm H
 have zu:=aM zm
 clear zm
 have H':=aM H
 clear H
 go_enter Try.func75,Try.ntmps75
 go_wp2_with (first|((with_reducible refine gD 17 rfl ?_);refine Kd.N_lit (Kd.slice 3 (Kd.int .i64)) _ 22 ?hg (N':=17) ?hd (xs:=([l0,l1]:List (List Int))) (inner:=[.slice A0 l0.length c0,.slice A1 l1.length c1]) (ok:=(fun k_=>((P0_ k_∨P1_ k_)∨w.heap.size≤k_))) (okp:=(fun k_=>((P0_ k_∨P1_ k_)∨w.heap.size≤k_))) ?hr ?hp (fun _ hk=>hk) ((show ∀ k_,w.heap.size≤k_→(fun k_=>((P0_ k_∨P1_ k_)∨w.heap.size≤k_)) k_ from fun k_ hk=>(.inr (Nat.le_trans (below_size (qB HB)) hk))) _ (Nat.le_refl _)) (Below.refl _ _) (Nat.le_refl _) (by simp) ?_;(case hd=>rfl);(case hg=>rfl);(case hr=>first|(go_simp;done)|(go_simp;rfl));(case hp=>exact(Reps.one (show Kd.FK (Kd.slice 3 (Kd.int .i64)) _ _ l0 [.slice A0 l0.length c0] from (Kd.FK_slice_mk (Kd.V_reads' (Kd.V_mono (ok':=(fun k_=>((P0_ k_∨P1_ k_)∨w.heap.size≤k_))) (HO0.out) (fun k_ hk=>hk))).2.1 (Kd.V_F (Kd.V_mono (ok':=(fun k_=>((P0_ k_∨P1_ k_)∨w.heap.size≤k_))) (HO0.out) (fun k_ hk=>hk))))) (Reps.one (show Kd.FK (Kd.slice 3 (Kd.int .i64)) _ _ l1 [.slice A1 l1.length c1] from (Kd.FK_slice_mk (Kd.V_reads' (Kd.V_mono (ok':=(fun k_=>((P0_ k_∨P1_ k_)∨w.heap.size≤k_))) (HO1.out) (fun k_ hk=>hk))).2.1 (Kd.V_F (Kd.V_mono (ok':=(fun k_=>((P0_ k_∨P1_ k_)∨w.heap.size≤k_))) (HO1.out) (fun k_ hk=>hk))))) (Reps.none _ _))));intro v196 w3 ho4 hb hg_ hnew_;clear hg_ hnew_;(first|rw[← zu.out] at ho4|(simp only[Int.reduceToNat] at ho4;rw[← zu.out] at ho4));replace HO0:=aM (Kd.V_elder' (pV HO0.out) (Kd.N_base ho4) hb);replace HO1:=aM (Kd.V_elder' (pV HO1.out) (Kd.N_base ho4) hb);have zv:=aM (Kd.N_lower ho4 (below_size (qB HB)));replace HB:=bS (qB HB) hb;clear hb ho4;obtain⟨Ao5,co5,eo5⟩:=Kd.N_slice zv.out;subst eo5))
 go_loopg [19] k (fun kq v19 w'=>∃ (yc:Int),v19=.int .i64 yc∧Aside0 (fcr.l0 kq l0 l1 zf (zf.length:Int) yc=some (r1,r2))∧Aside0 (kq≤k)∧Aside0 (Kd.V (Kd.int .i64) 3 w' w.heap.size (fun k_=>((P0_ k_∨P1_ k_)∨w.heap.size≤k_)∧some k_≠((.slice Ao5 zf.length co5):Value).ownBlock) (.slice A0 l0.length c0) l0)∧Aside0 (Kd.V (Kd.int .i64) 3 w' w.heap.size (fun k_=>((P0_ k_∨P1_ k_)∨w.heap.size≤k_)∧some k_≠((.slice Ao5 zf.length co5):Value).ownBlock) (.slice A1 l1.length c1) l1)∧Aside0 (Kd.N (Kd.slice 3 (Kd.int .i64)) 22 w' w.heap.size (fun k_=>((P0_ k_∨P1_ k_)∨w.heap.size≤k_)) (.slice Ao5 zf.length co5) zf)∧Aside0 (Below w.heap.size w w'))
 case atStart=>exact⟨(0),(pF),H',⟨Nat.le_refl _⟩,⟨pV HO0.out⟩,⟨pV HO1.out⟩,⟨by(with_reducible repeat(first|apply Kd.N_alloc|apply Kd.N_drewN|apply Kd.N_drew));exact zv.out⟩,⟨qB HB⟩⟩
 clear H'
 try clear c1
 obtain⟨yc,rfl,HA,HK1,zb,zc,zh,HB⟩:=hrel
 cases gk with
 | zero=>exact absurd HA.out (by simp[fcr.l0])
 | succ k1=>?_
 have H:=HA.out
 clear HA
 simp only[fcr.l0] at H
 by_cases c6:yc<(zf.length:Int)
 ·rw[ip c6] at H
  have z0:=dT c6
  clear c6
  by_cases c7:0≤yc
  rotate_left
  ·rw[iN c7] at H
   cases H
  rw[ip c7] at H
  have c7b0:=dT c7
  clear c7
  by_cases c8:yc<(zf.length:Int)
  rotate_left
  ·rw[iN c8] at H
   cases H
  rw[ip c8] at H
  have c8b0:=dT c8
  clear c8
  replace H:=oB H
  obtain⟨zj,A90,H⟩:=H
  try dsimp only at H
  have A9:=aM A90
  clear A90
  by_cases c10:zj=0
  rotate_left
  ·rw[iN c10] at H
   have yr:=bF c10
   have ys:=nT c10
   replace H:=oi2 H
   obtain⟨rfl,rfl⟩:=H
   have yo:0≤(yc:Int):=oD
   have yp:yc<(zf.length:Int):=oD
   obtain⟨yt,yh,yi,yq,yg,yd,ye⟩:=at_L1 (Kd.N_reads' zh.out).2.2 yc yo yp
   cases yq
   obtain⟨yu,yj,yk,yf⟩:=Kd.N_get zh.out [] yc yo (by first|exact yp|exact of_decide_eq_true pD|(have e_:=(Kd.N_reads' zh.out).1;omega))
   obtain⟨ua198_0,uc198_0,rfl,ul198_0,ge198_0⟩:=Kd.FK_slice_open yk
   have hv198_0:=yf 0 _ rfl
   rw[Nat.add_zero,show ((Kd.slice 3 (Kd.int .i64))).sz=1 from rfl,Nat.mul_one] at hv198_0
   replace hv198_0:=Option.some.inj (hv198_0.symm.trans yg)
   injection hv198_0 with hva_ hvn_ hvc_
   rw[hva_] at ge198_0
   rw[hvc_] at ul198_0
   have HL198_0:=aM (show Kd.V (Kd.int .i64) 3 _ w.heap.size _ _ (rd_L1 zf yc) from Kd.V_mk ul198_0 ge198_0)
   clear hva_ hvn_ hvc_ ge198_0 ul198_0
   clear yf yj
   have zi:=aM ye
   have zl:=aM yd
   clear ye yd
   go_wp2_with (first|((with_reducible refine gC 31 rfl ?_);refine gL 24 Try.func31 #[.slice yh (rd_L1 zf yc).length yi] ?_;(with_reducible refine(fcg.calls _ _ (rd_L1 zf yc) zj _ ?s1 zl.out A9.out).mono ?_);(case s1=>repeat(first|exact(by repeat(first|(with_reducible exact zi.out)|(with_reducible refine Kd.C_alloc ?_ _)|(with_reducible refine Kd.C_drewN ?_ _)|(with_reducible refine Kd.C_drew ?_)|exact zi.out))|(with_reducible refine Kd.C_alloc ?_ _)|(with_reducible refine Kd.C_drewN ?_ _)|(with_reducible refine Kd.C_drew ?_)));rintro e w' ⟨rfl,⟨nd,rfl⟩⟩;refine⟨_,rfl,?_⟩))
   go_ret2
   exact⟨_,pE,pN,qB HB⟩
  rw[ip c10] at H
  have yr:=bT c10
  have ys:=nF c10
  clear c10
  have H':=aM H
  clear H
  have yo:0≤(yc:Int):=oD
  have yp:yc<(zf.length:Int):=oD
  obtain⟨yt,yh,yi,yq,yg,yd,ye⟩:=at_L1 (Kd.N_reads' zh.out).2.2 yc yo yp
  cases yq
  obtain⟨yu,yj,yk,yf⟩:=Kd.N_get zh.out [] yc yo (by first|exact yp|exact of_decide_eq_true pD|(have e_:=(Kd.N_reads' zh.out).1;omega))
  obtain⟨ua198_0,uc198_0,rfl,ul198_0,ge198_0⟩:=Kd.FK_slice_open yk
  have hv198_0:=yf 0 _ rfl
  rw[Nat.add_zero,show ((Kd.slice 3 (Kd.int .i64))).sz=1 from rfl,Nat.mul_one] at hv198_0
  replace hv198_0:=Option.some.inj (hv198_0.symm.trans yg)
  injection hv198_0 with hva_ hvn_ hvc_
  rw[hva_] at ge198_0
  rw[hvc_] at ul198_0
  have HL198_0:=aM (show Kd.V (Kd.int .i64) 3 _ w.heap.size _ _ (rd_L1 zf yc) from Kd.V_mk ul198_0 ge198_0)
  clear hva_ hvn_ hvc_ ge198_0 ul198_0
  clear yf yj
  have zi:=aM ye
  have zl:=aM yd
  clear ye yd
  go_wp2_with (first|((with_reducible refine gC 31 rfl ?_);refine gL 24 Try.func31 #[.slice yh (rd_L1 zf yc).length yi] ?_;(with_reducible refine(fcg.calls _ _ (rd_L1 zf yc) zj _ ?s1 zl.out A9.out).mono ?_);(case s1=>repeat(first|exact(by repeat(first|(with_reducible exact zi.out)|(with_reducible refine Kd.C_alloc ?_ _)|(with_reducible refine Kd.C_drewN ?_ _)|(with_reducible refine Kd.C_drew ?_)|exact zi.out))|(with_reducible refine Kd.C_alloc ?_ _)|(with_reducible refine Kd.C_drewN ?_ _)|(with_reducible refine Kd.C_drew ?_)));rintro e w' ⟨rfl,⟨nd,rfl⟩⟩;refine⟨_,rfl,?_⟩))
  go_roundg k1
  case measure=>have:=HK1.out;omega
  case rel=>exact⟨(wrap64 (yc+1)),(pF),H',⟨pO1 HK1⟩,⟨pV zb.out⟩,⟨pV zc.out⟩,⟨by(with_reducible repeat(first|apply Kd.N_alloc|apply Kd.N_drewN|apply Kd.N_drew));exact zh.out⟩,⟨qB HB⟩⟩
 rw[iN c6] at H
 have z0:=dF c6
 clear c6
 obtain⟨ji11,hji11⟩:∃ j_:Int,(mx (l0.length:Int) (l1.length:Int))=j_:=⟨_,rfl⟩
 replace H:(if 0≤(ji11)then(if(ji11:Int).toNat≤35184372088832 then(fcr.l1 k1 l0 l1 ji11 (List.replicate (ji11:Int).toNat 0) 1)else(none))else(none))=some (r1,r2):=by first|(rw[hji11] at H;exact H)|(simp only[hji11] at H ⊢;exact H)
 have hji11_:(if(l0.length:Int)<(l1.length:Int)then(l1.length:Int)else(l0.length:Int))=ji11:=hji11
 have hji11_n:(if l0.length<l1.length then(l1.length:Int)else(l0.length:Int))=ji11:=by simpa only[Int.ofNat_lt] using hji11_
 by_cases c12:0≤(ji11)
 rotate_left
 ·rw[iN c12] at H
  cases H
 rw[ip c12] at H
 have yv:=eq_true c12
 have yw:=dT c12
 clear c12
 by_cases c13:(ji11:Int).toNat≤35184372088832
 rotate_left
 ·rw[iN c13] at H
  cases H
 rw[ip c13] at H
 have yx:=eq_true c13
 have yy:=dT c13
 clear c13
 obtain⟨z1,zn⟩:∃ y_:List Int,y_=(List.replicate (ji11:Int).toNat 0):=⟨_,rfl⟩
 replace H:(fcr.l1 k1 l0 l1 ji11 z1 1)=some (r1,r2):=pH zn H
 have zw:=aM zn
 clear zn
 have H':=aM H
 clear H
 go_wp2_with (first|((with_reducible refine gD 35 rfl ?_);refine Kd.R_make (Kd.int .i64) _ 3 rfl (N:=35) rfl 22 _ _ rfl ji11 rfl rfl Try.underlying22 (.int .i64 0) 8 info3 rfl (by decide) (by omega) 0 (ok:=fun _=>True) (okp:=fun _=>True) rfl (fun _ hk=>hk) trivial (of_decide_eq_true pD) (Nat.le_trans (Nat.mul_le_mul_right _ (of_decide_eq_true pD:ji11.toNat≤35184372088832)) (by omega)) (Below.refl _ _) (Nat.le_refl _) ?_;intro zg w14 ho15 hb hg_ hnew_;clear hg_ hnew_;(first|rw[← zw.out] at ho15|(simp only[Int.reduceToNat] at ho15;rw[← zw.out] at ho15));replace zb:=aM (Kd.V_elder' (pV zb.out) (Kd.R_base ho15) hb);replace zc:=aM (Kd.V_elder' (pV zc.out) (Kd.R_base ho15) hb);replace zh:=aM (Kd.N_elder' (by(with_reducible repeat(first|apply Kd.N_alloc|apply Kd.N_drewN|apply Kd.N_drew));exact zh.out) (Kd.R_base ho15) hb);have HO202:=aM (Kd.R_lower (Kd.R_newM (M:=fun k_=>(w.heap.size≤k_)) ho15 (below_size (qB HB)) (fun k_ h_=>h_)) (below_size (qB HB)));replace HB:=bS (qB HB) hb;clear hb ho15))
 go_loopg [11] k1 (fun kq v11 w'=>∃ (ya:List Int) (yb:Int),v11=.int .i64 yb∧Aside0 (fcr.l1 kq l0 l1 ji11 ya yb=some (r1,r2))∧Aside0 (kq≤k1)∧Aside0 (Kd.V (Kd.int .i64) 3 w' w.heap.size (fun k_=>((P0_ k_∨P1_ k_)∨w.heap.size≤k_)∧some k_≠(zg:Value).ownBlock) (.slice A0 l0.length c0) l0)∧Aside0 (Kd.V (Kd.int .i64) 3 w' w.heap.size (fun k_=>((P0_ k_∨P1_ k_)∨w.heap.size≤k_)∧some k_≠(zg:Value).ownBlock) (.slice A1 l1.length c1) l1)∧Aside0 (Kd.R (Kd.int .i64) 3 w' w.heap.size (fun k_=>(w.heap.size≤k_)) zg ya)∧Aside0 (Below w.heap.size w w'))
 case atStart=>exact⟨(z1),(1),(pF),H',⟨Nat.le_refl _⟩,⟨by(with_reducible repeat(first|apply Kd.V_alloc|apply Kd.V_drewN|apply Kd.V_drew));exact Kd.V_mono zb.out (fun _ hk=>⟨hk.1.1,hk.2⟩)⟩,⟨by(with_reducible repeat(first|apply Kd.V_alloc|apply Kd.V_drewN|apply Kd.V_drew));exact Kd.V_mono zc.out (fun _ hk=>⟨hk.1.1,hk.2⟩)⟩,⟨by(with_reducible repeat(first|apply rA|apply rN|apply rD));exact Kd.R_mono HO202.out (fun _ hk=>hk.1)⟩,⟨qB HB⟩⟩
 clear H'
 try clear c1
 try clear z0
 try clear yv
 try clear yw
 try clear yx
 try clear yy
 obtain⟨ya,yb,rfl,HA,HK2,zb,zc,za,HB⟩:=hrel
 cases gk with
 | zero=>exact absurd HA.out (by simp[fcr.l1])
 | succ k2=>?_
 have H:=HA.out
 clear HA
 simp only[fcr.l1] at H
 by_cases c16:yb≤ji11
 rotate_left
 ·rw[iN c16] at H
  have yz:=dF c16
  clear c16
  replace H:=oB H
  obtain⟨zk,z2,H⟩:=H
  try dsimp only at H
  have A43:=aM z2
  clear z2
  by_cases c44:zk=0
  rotate_left
  ·rw[iN c44] at H
   have y0:=bF c44
   have y1:=nT c44
   replace H:=oi2 H
   obtain⟨rfl,rfl⟩:=H
   obtain⟨y8,y9,yaa⟩:=Kd.R_slice za.out
   subst yaa
   go_wp2_with (first|((with_reducible refine gC 31 rfl ?_);refine gL 67 Try.func31 #[.slice y8 ya.length y9] ?_;(with_reducible refine(fcg.calls _ _ ya zk _ ?s1 ?s2 A43.out).mono ?_);(case s1=>exact sR za);(case s2=>exact sL za);rintro e w' ⟨rfl,⟨nd,rfl⟩⟩;refine⟨_,rfl,?_⟩))
   go_ret2
   exact⟨_,by first|rfl|(simp[errW_none,errW_some] <;> rfl)|(simp only[← hji11];first|rfl|(simp[errW_none,errW_some] <;> rfl))|(simp[*,errW_none,errW_some] <;> rfl),pN,qB HB⟩
  rw[ip c44] at H
  have y0:=bT c44
  have y1:=nF c44
  clear c44
  replace H:=oi2 H
  obtain⟨rfl,rfl⟩:=H
  obtain⟨yab,yac,yad⟩:=Kd.R_slice za.out
  subst yad
  go_wp2_with (first|((with_reducible refine gC 31 rfl ?_);refine gL 67 Try.func31 #[.slice yab ya.length yac] ?_;(with_reducible refine(fcg.calls _ _ ya zk _ ?s1 ?s2 A43.out).mono ?_);(case s1=>exact sR za);(case s2=>exact sL za);rintro e w' ⟨rfl,⟨nd,rfl⟩⟩;refine⟨_,rfl,?_⟩))
  go_ret2
  exact⟨_,by first|rfl|(simp[errW_none,errW_some] <;> rfl)|(simp only[← hji11];first|rfl|(simp[errW_none,errW_some] <;> rfl))|(simp[*,errW_none,errW_some] <;> rfl),pR za.out,qB HB⟩
 rw[ip c16] at H
 have yz:=dT c16
 clear c16
 replace H:=oB H
 obtain⟨zd,z3,H⟩:=H
 try dsimp only at H
 have A17:=aM z3
 clear z3
 replace H:=oB H
 obtain⟨ze,z4,H⟩:=H
 try dsimp only at H
 have A18:=aM z4
 clear z4
 by_cases c19:zd=ze
 ·rw[ip c19] at H
  have y2:=bT c19
  have y3:=nF c19
  clear c19
  obtain⟨ji20,hji20⟩:∃ j_:Int,(mx zd ze)=j_:=⟨_,rfl⟩
  replace H:(if 0≤(wrap64 (ji11-yb))then(if(wrap64 (ji11-yb))<(ya.length:Int)then(fcr.l1 k2 l0 l1 ji11 (ya.set ((wrap64 (ji11-yb)):Int).toNat (ji20)) (wrap64 (yb+1)))else(none))else(none))=some (r1,r2):=by first|(rw[hji20] at H;exact H)|(simp only[hji20] at H ⊢;exact H)
  (try rw[hji20] at A17)
  (try rw[hji20] at A18)
  have hji20_:(if zd<ze then ze else zd)=ji20:=hji20
  obtain⟨ji21,hji21⟩:∃ j_:Int,(wrap64 (ji11-yb))=j_:=⟨_,rfl⟩
  replace H:(if 0≤(ji21)then(if(ji21)<(ya.length:Int)then(fcr.l1 k2 l0 l1 ji11 (ya.set ((ji21):Int).toNat (ji20)) (wrap64 (yb+1)))else(none))else(none))=some (r1,r2):=by first|(rw[hji21] at H;exact H)|(simp only[hji21] at H ⊢;exact H)
  (try rw[hji21] at A17)
  (try rw[hji21] at A18)
  have hji21w:(IntKind.i64.wrap (ji11-yb))=ji21:=(i64_w _).trans hji21
  by_cases c22:0≤(ji21)
  rotate_left
  ·rw[iN c22] at H
   cases H
  rw[ip c22] at H
  have c22b0:=dT c22
  clear c22
  by_cases c23:(ji21)<(ya.length:Int)
  rotate_left
  ·rw[iN c23] at H
   cases H
  rw[ip c23] at H
  have c23b0:=dT c23
  clear c23
  obtain⟨zx,zo⟩:∃ y_:List Int,y_=(ya.set ((ji21):Int).toNat (ji20)):=⟨_,rfl⟩
  replace H:(fcr.l1 k2 l0 l1 ji11 zx (wrap64 (yb+1)))=some (r1,r2):=pH zo H
  have Ny206:=aM zo
  clear zo
  have H':=aM H
  clear H
  go_wp2_with (first|((with_reducible refine gC 92 rfl ?_);refine gL 43 Try.func92 #[.slice A0 l0.length c0,.int .i64 yb] ?_;(with_reducible refine(fcs.calls _ _ l0 yb zd _ ?s1 ?s2 A17.out).mono ?_);(case s1=>exact pC (Kd.V_reads' zb.out).2.2);(case s2=>exact(Kd.V_reads' zb.out).2.1);rintro e w' ⟨rfl,⟨nd,rfl⟩⟩;refine⟨_,rfl,?_⟩;(try (rw[drewN_self wr];generalize hq_:World.drewN wr _=wr;have n0_:Aside0 (Kd.V (Kd.int .i64) 3 wr w.heap.size (fun k_=>((P0_ k_∨P1_ k_)∨w.heap.size≤k_)∧some k_≠(zg:Value).ownBlock) (.slice A0 l0.length c0) l0):=⟨by rw[← hq_];exact(pV zb.out)⟩;have n1_:Aside0 (Kd.V (Kd.int .i64) 3 wr w.heap.size (fun k_=>((P0_ k_∨P1_ k_)∨w.heap.size≤k_)∧some k_≠(zg:Value).ownBlock) (.slice A1 l1.length c1) l1):=⟨by rw[← hq_];exact(pV zc.out)⟩;have n2_:Aside0 (Kd.R (Kd.int .i64) 3 wr w.heap.size (fun k_=>(w.heap.size≤k_)) zg ya):=⟨by rw[← hq_];exact(pR za.out)⟩;have n3_:Aside0 (Below w.heap.size w wr):=⟨by rw[← hq_];exact(qB HB)⟩;clear zb zc za HB hq_;have zb:=n0_;have zc:=n1_;have za:=n2_;have HB:=n3_;clear n0_ n1_ n2_ n3_)))|((with_reducible refine gC 92 rfl ?_);refine gL 46 Try.func92 #[.slice A1 l1.length c1,.int .i64 yb] ?_;(with_reducible refine(fcs.calls _ _ l1 yb ze _ ?s1 ?s2 A18.out).mono ?_);(case s1=>exact pC (Kd.V_reads' zc.out).2.2);(case s2=>exact(Kd.V_reads' zc.out).2.1);rintro e w' ⟨rfl,⟨nd,rfl⟩⟩;refine⟨_,rfl,?_⟩;(try (rw[drewN_self wr];generalize hq_:World.drewN wr _=wr;have n0_:Aside0 (Kd.V (Kd.int .i64) 3 wr w.heap.size (fun k_=>((P0_ k_∨P1_ k_)∨w.heap.size≤k_)∧some k_≠(zg:Value).ownBlock) (.slice A0 l0.length c0) l0):=⟨by rw[← hq_];exact(pV zb.out)⟩;have n1_:Aside0 (Kd.V (Kd.int .i64) 3 wr w.heap.size (fun k_=>((P0_ k_∨P1_ k_)∨w.heap.size≤k_)∧some k_≠(zg:Value).ownBlock) (.slice A1 l1.length c1) l1):=⟨by rw[← hq_];exact(pV zc.out)⟩;have n2_:Aside0 (Kd.R (Kd.int .i64) 3 wr w.heap.size (fun k_=>(w.heap.size≤k_)) zg ya):=⟨by rw[← hq_];exact(pR za.out)⟩;have n3_:Aside0 (Below w.heap.size w wr):=⟨by rw[← hq_];exact(qB HB)⟩;clear zb zc za HB hq_;have zb:=n0_;have zc:=n1_;have za:=n2_;have HB:=n3_;clear n0_ n1_ n2_ n3_));have p24:0≤((ji21):Int):=oD;have q24:((ji21):Int)<((ya.length:Int):Int):=oD;obtain⟨yl,zp,z5,z6,gl24,cl24,HG24⟩:=Kd.R_form za.out (by omega);(first|cases z5|(injection z5 with ea_ en_ ec_;(first|subst ea_|(injection ea_ with ea_;subst ea_));subst ec_;clear en_));have GB24:=aM z6;have GG24:=aM HG24;clear z6 gl24 HG24;obtain⟨hx24_0,hf24_0⟩:=Kd.R_celln 0 za.out ((ji21):Int) p24 q24;obtain⟨hy25_,hz25_⟩:=Kd.R_celln 0 za.out ((ji21):Int) (of_decide_eq_true pD) (of_decide_eq_true pD);have HP25:=Kd.R_putg za.out ((ji21):Int) ji20)|((with_reducible refine gate_store (t:=3) (p:=65) rfl ?_);refine store_event (t:=3) (p:=65) (v:=?vo_w26) (w1:=(wr.setCell ⟨yl,((ji21):Int).toNat,none⟩ (.int .i64 ji20))) ?hg ?ho ?hn ?hr ?_;(case ho=>rfl);(case hg=>rfl);(case hn=>rfl);(case hr=>first|(go_simp;done)|(go_simp;rfl));intro w26 hw;have hg:wr.grownBy w26 (some yl):=(by rw[hw];exact HP25.2);have hp_:Kd.R (Kd.int .i64) 3 w26 w.heap.size (fun k_=>(w.heap.size≤k_)) (.slice (some ⟨yl,0,none⟩) ya.length zp) zx:=(by rw[hw,Ny206.out];exact HP25.1);clear HP25;replace zb:=aM (Kd.V_afterv (v:=(.slice (some ⟨yl,0,none⟩) ya.length zp)) (v1:=(.slice (some ⟨yl,0,none⟩) ya.length zp)) (ok:=(fun k_=>((P0_ k_∨P1_ k_)∨w.heap.size≤k_))) (pV zb.out) hg (.inl rfl));replace zc:=aM (Kd.V_afterv (v:=(.slice (some ⟨yl,0,none⟩) ya.length zp)) (v1:=(.slice (some ⟨yl,0,none⟩) ya.length zp)) (ok:=(fun k_=>((P0_ k_∨P1_ k_)∨w.heap.size≤k_))) (pV zc.out) hg (.inl rfl));replace za:=aM (hp_);replace HB:=aM ((by rw[hw];exact below_set (HB.out) GB24.out:Below w.heap.size w w26));clear hg hw hp_))
  go_roundg k2
  case measure=>have:=HK1.out;have:=HK2.out;omega
  case rel=>exact⟨(zx),(wrap64 (yb+1)),(pF),H',⟨pO2 HK1 HK2⟩,⟨pV zb.out⟩,⟨pV zc.out⟩,⟨pR za.out⟩,⟨qB HB⟩⟩
 rw[iN c19] at H
 have y2:=bF c19
 have y3:=nT c19
 by_cases c27:zd=1
 ·rw[ip c27] at H
  have y4:=bT c27
  have y5:=nF c27
  clear c27
  obtain⟨ji28,hji28⟩:∃ j_:Int,(mx zd ze)=j_:=⟨_,rfl⟩
  replace H:(if 0≤(wrap64 (ji11-yb))then(if(wrap64 (ji11-yb))<(ya.length:Int)then(fcr.l1 k2 l0 l1 ji11 (ya.set ((wrap64 (ji11-yb)):Int).toNat (ji28)) (wrap64 (yb+1)))else(none))else(none))=some (r1,r2):=by first|(rw[hji28] at H;exact H)|(simp only[hji28] at H ⊢;exact H)
  (try rw[hji28] at A17)
  (try rw[hji28] at A18)
  have hji28_:(if zd<ze then ze else zd)=ji28:=hji28
  obtain⟨ji29,hji29⟩:∃ j_:Int,(wrap64 (ji11-yb))=j_:=⟨_,rfl⟩
  replace H:(if 0≤(ji29)then(if(ji29)<(ya.length:Int)then(fcr.l1 k2 l0 l1 ji11 (ya.set ((ji29):Int).toNat (ji28)) (wrap64 (yb+1)))else(none))else(none))=some (r1,r2):=by first|(rw[hji29] at H;exact H)|(simp only[hji29] at H ⊢;exact H)
  (try rw[hji29] at A17)
  (try rw[hji29] at A18)
  have hji29w:(IntKind.i64.wrap (ji11-yb))=ji29:=(i64_w _).trans hji29
  by_cases c30:0≤(ji29)
  rotate_left
  ·rw[iN c30] at H
   cases H
  rw[ip c30] at H
  have c30b0:=dT c30
  clear c30
  by_cases c31:(ji29)<(ya.length:Int)
  rotate_left
  ·rw[iN c31] at H
   cases H
  rw[ip c31] at H
  have c31b0:=dT c31
  clear c31
  obtain⟨zy,zq⟩:∃ y_:List Int,y_=(ya.set ((ji29):Int).toNat (ji28)):=⟨_,rfl⟩
  replace H:(fcr.l1 k2 l0 l1 ji11 zy (wrap64 (yb+1)))=some (r1,r2):=pH zq H
  have Ny207:=aM zq
  clear zq
  have H':=aM H
  clear H
  go_wp2_with (first|((with_reducible refine gC 92 rfl ?_);refine gL 43 Try.func92 #[.slice A0 l0.length c0,.int .i64 yb] ?_;(with_reducible refine(fcs.calls _ _ l0 yb zd _ ?s1 ?s2 A17.out).mono ?_);(case s1=>exact pC (Kd.V_reads' zb.out).2.2);(case s2=>exact(Kd.V_reads' zb.out).2.1);rintro e w' ⟨rfl,⟨nd,rfl⟩⟩;refine⟨_,rfl,?_⟩;(try (rw[drewN_self wr];generalize hq_:World.drewN wr _=wr;have n0_:Aside0 (Kd.V (Kd.int .i64) 3 wr w.heap.size (fun k_=>((P0_ k_∨P1_ k_)∨w.heap.size≤k_)∧some k_≠(zg:Value).ownBlock) (.slice A0 l0.length c0) l0):=⟨by rw[← hq_];exact(pV zb.out)⟩;have n1_:Aside0 (Kd.V (Kd.int .i64) 3 wr w.heap.size (fun k_=>((P0_ k_∨P1_ k_)∨w.heap.size≤k_)∧some k_≠(zg:Value).ownBlock) (.slice A1 l1.length c1) l1):=⟨by rw[← hq_];exact(pV zc.out)⟩;have n2_:Aside0 (Kd.R (Kd.int .i64) 3 wr w.heap.size (fun k_=>(w.heap.size≤k_)) zg ya):=⟨by rw[← hq_];exact(pR za.out)⟩;have n3_:Aside0 (Below w.heap.size w wr):=⟨by rw[← hq_];exact(qB HB)⟩;clear zb zc za HB hq_;have zb:=n0_;have zc:=n1_;have za:=n2_;have HB:=n3_;clear n0_ n1_ n2_ n3_)))|((with_reducible refine gC 92 rfl ?_);refine gL 46 Try.func92 #[.slice A1 l1.length c1,.int .i64 yb] ?_;(with_reducible refine(fcs.calls _ _ l1 yb ze _ ?s1 ?s2 A18.out).mono ?_);(case s1=>exact pC (Kd.V_reads' zc.out).2.2);(case s2=>exact(Kd.V_reads' zc.out).2.1);rintro e w' ⟨rfl,⟨nd,rfl⟩⟩;refine⟨_,rfl,?_⟩;(try (rw[drewN_self wr];generalize hq_:World.drewN wr _=wr;have n0_:Aside0 (Kd.V (Kd.int .i64) 3 wr w.heap.size (fun k_=>((P0_ k_∨P1_ k_)∨w.heap.size≤k_)∧some k_≠(zg:Value).ownBlock) (.slice A0 l0.length c0) l0):=⟨by rw[← hq_];exact(pV zb.out)⟩;have n1_:Aside0 (Kd.V (Kd.int .i64) 3 wr w.heap.size (fun k_=>((P0_ k_∨P1_ k_)∨w.heap.size≤k_)∧some k_≠(zg:Value).ownBlock) (.slice A1 l1.length c1) l1):=⟨by rw[← hq_];exact(pV zc.out)⟩;have n2_:Aside0 (Kd.R (Kd.int .i64) 3 wr w.heap.size (fun k_=>(w.heap.size≤k_)) zg ya):=⟨by rw[← hq_];exact(pR za.out)⟩;have n3_:Aside0 (Below w.heap.size w wr):=⟨by rw[← hq_];exact(qB HB)⟩;clear zb zc za HB hq_;have zb:=n0_;have zc:=n1_;have za:=n2_;have HB:=n3_;clear n0_ n1_ n2_ n3_));have p32:0≤((ji29):Int):=oD;have q32:((ji29):Int)<((ya.length:Int):Int):=oD;obtain⟨ym,zr,z7,z8,gl32,cl32,HG32⟩:=Kd.R_form za.out (by omega);(first|cases z7|(injection z7 with ea_ en_ ec_;(first|subst ea_|(injection ea_ with ea_;subst ea_));subst ec_;clear en_));have GB32:=aM z8;have GG32:=aM HG32;clear z8 gl32 HG32;obtain⟨hx32_0,hf32_0⟩:=Kd.R_celln 0 za.out ((ji29):Int) p32 q32;obtain⟨hy33_,hz33_⟩:=Kd.R_celln 0 za.out ((ji29):Int) (of_decide_eq_true pD) (of_decide_eq_true pD);have HP33:=Kd.R_putg za.out ((ji29):Int) ji28)|((with_reducible refine gate_store (t:=3) (p:=65) rfl ?_);refine store_event (t:=3) (p:=65) (v:=?vo_w34) (w1:=(wr.setCell ⟨ym,((ji29):Int).toNat,none⟩ (.int .i64 ji28))) ?hg ?ho ?hn ?hr ?_;(case ho=>rfl);(case hg=>rfl);(case hn=>rfl);(case hr=>first|(go_simp;done)|(go_simp;rfl));intro w34 hw;have hg:wr.grownBy w34 (some ym):=(by rw[hw];exact HP33.2);have hp_:Kd.R (Kd.int .i64) 3 w34 w.heap.size (fun k_=>(w.heap.size≤k_)) (.slice (some ⟨ym,0,none⟩) ya.length zr) zy:=(by rw[hw,Ny207.out];exact HP33.1);clear HP33;replace zb:=aM (Kd.V_afterv (v:=(.slice (some ⟨ym,0,none⟩) ya.length zr)) (v1:=(.slice (some ⟨ym,0,none⟩) ya.length zr)) (ok:=(fun k_=>((P0_ k_∨P1_ k_)∨w.heap.size≤k_))) (pV zb.out) hg (.inl rfl));replace zc:=aM (Kd.V_afterv (v:=(.slice (some ⟨ym,0,none⟩) ya.length zr)) (v1:=(.slice (some ⟨ym,0,none⟩) ya.length zr)) (ok:=(fun k_=>((P0_ k_∨P1_ k_)∨w.heap.size≤k_))) (pV zc.out) hg (.inl rfl));replace za:=aM (hp_);replace HB:=aM ((by rw[hw];exact below_set (HB.out) GB32.out:Below w.heap.size w w34));clear hg hw hp_))
  go_roundg k2
  case measure=>have:=HK1.out;have:=HK2.out;omega
  case rel=>exact⟨(zy),(wrap64 (yb+1)),(pF),H',⟨pO2 HK1 HK2⟩,⟨pV zb.out⟩,⟨pV zc.out⟩,⟨pR za.out⟩,⟨qB HB⟩⟩
 rw[iN c27] at H
 have y4:=bF c27
 have y5:=nT c27
 by_cases c35:ze=1
 rotate_left
 ·rw[iN c35] at H
  have y6:=bF c35
  have y7:=nT c35
  replace H:=oi2 H
  obtain⟨rfl,rfl⟩:=H
  go_wp2_with (first|((with_reducible refine gC 92 rfl ?_);refine gL 43 Try.func92 #[.slice A0 l0.length c0,.int .i64 yb] ?_;(with_reducible refine(fcs.calls _ _ l0 yb zd _ ?s1 ?s2 A17.out).mono ?_);(case s1=>exact pC (Kd.V_reads' zb.out).2.2);(case s2=>exact(Kd.V_reads' zb.out).2.1);rintro e w' ⟨rfl,⟨nd,rfl⟩⟩;refine⟨_,rfl,?_⟩)|((with_reducible refine gC 92 rfl ?_);refine gL 46 Try.func92 #[.slice A1 l1.length c1,.int .i64 yb] ?_;(with_reducible refine(fcs.calls _ _ l1 yb ze _ ?s1 ?s2 A18.out).mono ?_);(case s1=>exact pC (Kd.V_reads' zc.out).2.2);(case s2=>exact(Kd.V_reads' zc.out).2.1);rintro e w' ⟨rfl,⟨nd,rfl⟩⟩;refine⟨_,rfl,?_⟩))
  go_ret2
  exact⟨_,by first|rfl|(simp[errW_none,errW_some] <;> rfl)|(simp only[← hji11];first|rfl|(simp[errW_none,errW_some] <;> rfl))|(simp[*,errW_none,errW_some] <;> rfl),pN,qB HB⟩
 rw[ip c35] at H
 have y6:=bT c35
 have y7:=nF c35
 clear c35
 obtain⟨ji36,hji36⟩:∃ j_:Int,(mx zd ze)=j_:=⟨_,rfl⟩
 replace H:(if 0≤(wrap64 (ji11-yb))then(if(wrap64 (ji11-yb))<(ya.length:Int)then(fcr.l1 k2 l0 l1 ji11 (ya.set ((wrap64 (ji11-yb)):Int).toNat (ji36)) (wrap64 (yb+1)))else(none))else(none))=some (r1,r2):=by first|(rw[hji36] at H;exact H)|(simp only[hji36] at H ⊢;exact H)
 (try rw[hji36] at A17)
 (try rw[hji36] at A18)
 have hji36_:(if zd<ze then ze else zd)=ji36:=hji36
 obtain⟨ji37,hji37⟩:∃ j_:Int,(wrap64 (ji11-yb))=j_:=⟨_,rfl⟩
 replace H:(if 0≤(ji37)then(if(ji37)<(ya.length:Int)then(fcr.l1 k2 l0 l1 ji11 (ya.set ((ji37):Int).toNat (ji36)) (wrap64 (yb+1)))else(none))else(none))=some (r1,r2):=by first|(rw[hji37] at H;exact H)|(simp only[hji37] at H ⊢;exact H)
 (try rw[hji37] at A17)
 (try rw[hji37] at A18)
 have hji37w:(IntKind.i64.wrap (ji11-yb))=ji37:=(i64_w _).trans hji37
 by_cases c38:0≤(ji37)
 rotate_left
 ·rw[iN c38] at H
  cases H
 rw[ip c38] at H
 have c38b0:=dT c38
 clear c38
 by_cases c39:(ji37)<(ya.length:Int)
 rotate_left
 ·rw[iN c39] at H
  cases H
 rw[ip c39] at H
 have c39b0:=dT c39
 clear c39
 obtain⟨zz,zs⟩:∃ y_:List Int,y_=(ya.set ((ji37):Int).toNat (ji36)):=⟨_,rfl⟩
 replace H:(fcr.l1 k2 l0 l1 ji11 zz (wrap64 (yb+1)))=some (r1,r2):=pH zs H
 have Ny208:=aM zs
 clear zs
 have H':=aM H
 clear H
 go_wp2_with (first|((with_reducible refine gC 92 rfl ?_);refine gL 43 Try.func92 #[.slice A0 l0.length c0,.int .i64 yb] ?_;(with_reducible refine(fcs.calls _ _ l0 yb zd _ ?s1 ?s2 A17.out).mono ?_);(case s1=>exact pC (Kd.V_reads' zb.out).2.2);(case s2=>exact(Kd.V_reads' zb.out).2.1);rintro e w' ⟨rfl,⟨nd,rfl⟩⟩;refine⟨_,rfl,?_⟩;(try (rw[drewN_self wr];generalize hq_:World.drewN wr _=wr;have n0_:Aside0 (Kd.V (Kd.int .i64) 3 wr w.heap.size (fun k_=>((P0_ k_∨P1_ k_)∨w.heap.size≤k_)∧some k_≠(zg:Value).ownBlock) (.slice A0 l0.length c0) l0):=⟨by rw[← hq_];exact(pV zb.out)⟩;have n1_:Aside0 (Kd.V (Kd.int .i64) 3 wr w.heap.size (fun k_=>((P0_ k_∨P1_ k_)∨w.heap.size≤k_)∧some k_≠(zg:Value).ownBlock) (.slice A1 l1.length c1) l1):=⟨by rw[← hq_];exact(pV zc.out)⟩;have n2_:Aside0 (Kd.R (Kd.int .i64) 3 wr w.heap.size (fun k_=>(w.heap.size≤k_)) zg ya):=⟨by rw[← hq_];exact(pR za.out)⟩;have n3_:Aside0 (Below w.heap.size w wr):=⟨by rw[← hq_];exact(qB HB)⟩;clear zb zc za HB hq_;have zb:=n0_;have zc:=n1_;have za:=n2_;have HB:=n3_;clear n0_ n1_ n2_ n3_)))|((with_reducible refine gC 92 rfl ?_);refine gL 46 Try.func92 #[.slice A1 l1.length c1,.int .i64 yb] ?_;(with_reducible refine(fcs.calls _ _ l1 yb ze _ ?s1 ?s2 A18.out).mono ?_);(case s1=>exact pC (Kd.V_reads' zc.out).2.2);(case s2=>exact(Kd.V_reads' zc.out).2.1);rintro e w' ⟨rfl,⟨nd,rfl⟩⟩;refine⟨_,rfl,?_⟩;(try (rw[drewN_self wr];generalize hq_:World.drewN wr _=wr;have n0_:Aside0 (Kd.V (Kd.int .i64) 3 wr w.heap.size (fun k_=>((P0_ k_∨P1_ k_)∨w.heap.size≤k_)∧some k_≠(zg:Value).ownBlock) (.slice A0 l0.length c0) l0):=⟨by rw[← hq_];exact(pV zb.out)⟩;have n1_:Aside0 (Kd.V (Kd.int .i64) 3 wr w.heap.size (fun k_=>((P0_ k_∨P1_ k_)∨w.heap.size≤k_)∧some k_≠(zg:Value).ownBlock) (.slice A1 l1.length c1) l1):=⟨by rw[← hq_];exact(pV zc.out)⟩;have n2_:Aside0 (Kd.R (Kd.int .i64) 3 wr w.heap.size (fun k_=>(w.heap.size≤k_)) zg ya):=⟨by rw[← hq_];exact(pR za.out)⟩;have n3_:Aside0 (Below w.heap.size w wr):=⟨by rw[← hq_];exact(qB HB)⟩;clear zb zc za HB hq_;have zb:=n0_;have zc:=n1_;have za:=n2_;have HB:=n3_;clear n0_ n1_ n2_ n3_));have p40:0≤((ji37):Int):=oD;have q40:((ji37):Int)<((ya.length:Int):Int):=oD;obtain⟨yn,zt,z9,zaa,gl40,cl40,HG40⟩:=Kd.R_form za.out (by omega);(first|cases z9|(injection z9 with ea_ en_ ec_;(first|subst ea_|(injection ea_ with ea_;subst ea_));subst ec_;clear en_));have GB40:=aM zaa;have GG40:=aM HG40;clear zaa gl40 HG40;obtain⟨hx40_0,hf40_0⟩:=Kd.R_celln 0 za.out ((ji37):Int) p40 q40;obtain⟨hy41_,hz41_⟩:=Kd.R_celln 0 za.out ((ji37):Int) (of_decide_eq_true pD) (of_decide_eq_true pD);have HP41:=Kd.R_putg za.out ((ji37):Int) ji36)|((with_reducible refine gate_store (t:=3) (p:=65) rfl ?_);refine store_event (t:=3) (p:=65) (v:=?vo_w42) (w1:=(wr.setCell ⟨yn,((ji37):Int).toNat,none⟩ (.int .i64 ji36))) ?hg ?ho ?hn ?hr ?_;(case ho=>rfl);(case hg=>rfl);(case hn=>rfl);(case hr=>first|(go_simp;done)|(go_simp;rfl));intro w42 hw;have hg:wr.grownBy w42 (some yn):=(by rw[hw];exact HP41.2);have hp_:Kd.R (Kd.int .i64) 3 w42 w.heap.size (fun k_=>(w.heap.size≤k_)) (.slice (some ⟨yn,0,none⟩) ya.length zt) zz:=(by rw[hw,Ny208.out];exact HP41.1);clear HP41;replace zb:=aM (Kd.V_afterv (v:=(.slice (some ⟨yn,0,none⟩) ya.length zt)) (v1:=(.slice (some ⟨yn,0,none⟩) ya.length zt)) (ok:=(fun k_=>((P0_ k_∨P1_ k_)∨w.heap.size≤k_))) (pV zb.out) hg (.inl rfl));replace zc:=aM (Kd.V_afterv (v:=(.slice (some ⟨yn,0,none⟩) ya.length zt)) (v1:=(.slice (some ⟨yn,0,none⟩) ya.length zt)) (ok:=(fun k_=>((P0_ k_∨P1_ k_)∨w.heap.size≤k_))) (pV zc.out) hg (.inl rfl));replace za:=aM (hp_);replace HB:=aM ((by rw[hw];exact below_set (HB.out) GB40.out:Below w.heap.size w w42));clear hg hw hp_))
 go_roundg k2
 case measure=>have:=HK1.out;have:=HK2.out;omega
 case rel=>exact⟨(zz),(wrap64 (yb+1)),(pF),H',⟨pO2 HK1 HK2⟩,⟨pV zb.out⟩,⟨pV zc.out⟩,⟨pR za.out⟩,⟨qB HB⟩⟩
mutual
def fbs.l0:Nat→List Int→List Int→List (List Int)→Int→Int→Option (List Int×Int)
 | 0,_,_,_,_,_=>none
 | k+1,x0,x1,x17,x18,x19=>if x19<x18 then(if 0≤x19 then(if x19<(x17.length:Int)then((fcg.f (rd_L1 x17 x19)).bind fun zq=>(if zq=0 then(fbs.l0 k x0 x1 x17 x18 (wrap64 (x19+1)))else(some (([]:List Int),zq))))else(none))else(none))else(if(x0.length:Int)<2 then(fbs.j1 k x0 x1 (x0.length:Int) (x1.length:Int) true)else(fbs.j1 k x0 x1 (x0.length:Int) (x1.length:Int) (decide ((x1.length:Int)<2))))
def fbs.j1:Nat→List Int→List Int→Int→Int→Bool→Option (List Int×Int)
 | 0,_,_,_,_,_=>none
 | k+1,x0,x1,x9,x10,x38=>if x38=true then(some (([]:List Int),9))else(if 0≤(wrap64 (x9-1))then(if(wrap64 (x9-1))<(x0.length:Int)then(if 0≤(wrap64 (x10-2))then(if(wrap64 (x10-2))<(x1.length:Int)then(if(rd x0 (wrap64 (x9-1)))=(rd x1 (wrap64 (x10-2)))then(if 0≤(wrap64 (x9-2))then(if(wrap64 (x9-2))≤(x0.length:Int)then(if(wrap64 (x10-2))≤(x1.length:Int)then((fcr.f k (x0.take ((wrap64 (x9-2)):Int).toNat) (x1.take ((wrap64 (x10-2)):Int).toNat)).bind fun bt966=>(if bt966.2=0 then(if(wrap64 (x9-2))<(x0.length:Int)then(if 0≤(wrap64 (x10-1))then(if(wrap64 (x10-1))<(x1.length:Int)then((some (([rd x0 (wrap64 (x9-2)),rd x1 (wrap64 (x10-1))]:List Int):List Int)).bind fun ze=>(if bt966.1.length+ze.length<17592186044416 then((some (bt966.1++ze:List Int)).bind fun zg=>((fcg.f zg).bind fun zf=>(if zf=0 then(some (zg,0))else(some (([]:List Int),zf)))))else(none)))else(none))else(none))else(none))else(some (([]:List Int),bt966.2))))else(none))else(none))else(none))else(some (([]:List Int),8)))else(none))else(none))else(none))else(none))
end
def fbs.f (k:Nat) (l0 l1:List Int):Option (List Int×Int):=(some (([l0,l1]:List (List Int)):List (List Int))).bind fun zi=>(fbs.l0 k l0 l1 zi (zi.length:Int) 0)
def fbs.T11:TT:=(true,[([],[]),([],[]),([1],[1]),([0,2],[0,2]),([3],[3]),([],[]),([],[]),([6],[6]),([5,7],[5,7]),([8],[8]),([4,9],[4,9])])
def fbs.B11:List Nat:=[0,0,2,7,15,0,0,64,224,480,1023]
theorem fbs.tab11:rtab .any (opsOf Try.f55 11)=fbs.T11:=by kernel_rfl
theorem fbs.bits11:waitsOk fbs.T11.2 fbs.B11=true:=by kernel_rfl
def fbs.T13:TT:=(true,[([],[]),([],[]),([1],[1]),([0,2],[0,2]),([],[]),([],[]),([5],[5]),([4,6],[4,6]),([3,7],[3,7]),([8],[8]),([9],[9]),([9],[9]),([10,8,0,1,2,3,4,5,6,7,8,9,10],[10]),([11,12,0,1,2,3,4,5,6,7,8,9,10,11,12],[11])])
def fbs.B13:List Nat:=[0,0,2,7,0,0,32,112,255,511,1023,1023,2047,8191]
theorem fbs.tab13:rtab .any (opsOf Try.f55 13)=fbs.T13:=by kernel_rfl
theorem fbs.bits13:waitsOk fbs.T13.2 fbs.B13=true:=by kernel_rfl
def fbs.T16:TT:=(true,[([],[]),([],[]),([],[]),([2],[2]),([1,3],[1,3]),([4],[4]),([],[]),([],[]),([7],[7]),([6,8],[6,8]),([9],[9]),([5,10],[5,10]),([0,11],[0,11]),([12,12,0,1,2,3,4,5,6,7,8,9,10,11,12],[12])])
def fbs.B16:List Nat:=[0,0,0,4,14,30,0,0,128,448,960,2046,4095,8191]
theorem fbs.tab16:rtab .any (opsOf Try.f55 16)=fbs.T16:=by kernel_rfl
theorem fbs.bits16:waitsOk fbs.T16.2 fbs.B16=true:=by kernel_rfl
theorem fbs.calls (k:Nat)(P0_:Nat→Prop)(A0:Option Addr)(c0:Nat)(l0:List Int)(P1_:Nat→Prop)(A1:Option Addr)(c1:Nat)(l1 r1:List Int)(r2:Int)(w:World)(hs0:Kd.V (Kd.int .i64) 3 w w.heap.size (fun k_=>P0_ k_) (.slice A0 l0.length c0) l0)(hs1:Kd.V (Kd.int .i64) 3 w w.heap.size (fun k_=>P1_ k_) (.slice A1 l1.length c1) l1)(h:fbs.f k l0 l1=some (r1,r2)) :
  Calls Try.prog 55 #[.slice A0 l0.length c0,.slice A1 l1.length c1] w fun e w'=>∃ v0_:Value,e=.returned (.tuple #[v0_,.int .i64 r2])∧Kd.R (Kd.int .i64) 3 w' w.heap.size (fun k_=>(w.heap.size≤k_)) v0_ r1∧Below w.heap.size w w':=by
 have HO0:=aM (show Kd.V (Kd.int .i64) 3 w w.heap.size (fun k_=>((P0_ k_∨P1_ k_)∨w.heap.size≤k_)) (.slice A0 l0.length c0) l0 from Kd.V_mono hs0 (fun k_ hk=>.inl (.inl hk)))
 have HO1:=aM (show Kd.V (Kd.int .i64) 3 w w.heap.size (fun k_=>((P0_ k_∨P1_ k_)∨w.heap.size≤k_)) (.slice A1 l1.length c1) l1 from Kd.V_mono hs1 (fun k_ hk=>.inl (.inr hk)))
 have HB:=aM (Below.refl w.heap.size w)
 have H:((some (([l0,l1]:List (List Int)):List (List Int))).bind fun zi=>(fbs.l0 k l0 l1 zi (zi.length:Int) 0))=some (r1,r2):=h
 clear h
 obtain⟨zi,zy⟩:∃ y_:List (List Int),y_=(([l0,l1]:List (List Int))):=⟨_,rfl⟩
 replace H:(fbs.l0 k l0 l1 zi (zi.length:Int) 0)=some (r1,r2):=pH zy H
 have z8:=aM zy
 clear zy
 have H':=aM H
 clear H
 go_enter Try.func55,Try.ntmps55
 go_wp2_with (first|((with_reducible refine gD 17 rfl ?_);refine Kd.N_lit (Kd.slice 3 (Kd.int .i64)) _ 22 ?hg (N':=17) ?hd (xs:=([l0,l1]:List (List Int))) (inner:=[.slice A0 l0.length c0,.slice A1 l1.length c1]) (ok:=(fun k_=>((P0_ k_∨P1_ k_)∨w.heap.size≤k_))) (okp:=(fun k_=>((P0_ k_∨P1_ k_)∨w.heap.size≤k_))) ?hr ?hp (fun _ hk=>hk) ((show ∀ k_,w.heap.size≤k_→(fun k_=>((P0_ k_∨P1_ k_)∨w.heap.size≤k_)) k_ from fun k_ hk=>(.inr (Nat.le_trans (below_size (qB HB)) hk))) _ (Nat.le_refl _)) (Below.refl _ _) (Nat.le_refl _) (by simp) ?_;(case hd=>rfl);(case hg=>rfl);(case hr=>first|(go_simp;done)|(go_simp;rfl));(case hp=>exact(Reps.one (show Kd.FK (Kd.slice 3 (Kd.int .i64)) _ _ l0 [.slice A0 l0.length c0] from (Kd.FK_slice_mk (Kd.V_reads' (Kd.V_mono (ok':=(fun k_=>((P0_ k_∨P1_ k_)∨w.heap.size≤k_))) (HO0.out) (fun k_ hk=>hk))).2.1 (Kd.V_F (Kd.V_mono (ok':=(fun k_=>((P0_ k_∨P1_ k_)∨w.heap.size≤k_))) (HO0.out) (fun k_ hk=>hk))))) (Reps.one (show Kd.FK (Kd.slice 3 (Kd.int .i64)) _ _ l1 [.slice A1 l1.length c1] from (Kd.FK_slice_mk (Kd.V_reads' (Kd.V_mono (ok':=(fun k_=>((P0_ k_∨P1_ k_)∨w.heap.size≤k_))) (HO1.out) (fun k_ hk=>hk))).2.1 (Kd.V_F (Kd.V_mono (ok':=(fun k_=>((P0_ k_∨P1_ k_)∨w.heap.size≤k_))) (HO1.out) (fun k_ hk=>hk))))) (Reps.none _ _))));intro v950 w3 ho4 hb hg_ hnew_;clear hg_ hnew_;(first|rw[← z8.out] at ho4|(simp only[Int.reduceToNat] at ho4;rw[← z8.out] at ho4));replace HO0:=aM (Kd.V_elder' (pV HO0.out) (Kd.N_base ho4) hb);replace HO1:=aM (Kd.V_elder' (pV HO1.out) (Kd.N_base ho4) hb);have z9:=aM (Kd.N_lower ho4 (below_size (qB HB)));replace HB:=bS (qB HB) hb;clear hb ho4;obtain⟨Ao5,co5,eo5⟩:=Kd.N_slice z9.out;subst eo5))
 go_loopg [19] k (fun kq v19 w'=>∃ (yc:Int),v19=.int .i64 yc∧Aside0 (fbs.l0 kq l0 l1 zi (zi.length:Int) yc=some (r1,r2))∧Aside0 (kq≤k)∧Aside0 (Kd.V (Kd.int .i64) 3 w' w.heap.size (fun k_=>((P0_ k_∨P1_ k_)∨w.heap.size≤k_)∧some k_≠((.slice Ao5 zi.length co5):Value).ownBlock) (.slice A0 l0.length c0) l0)∧Aside0 (Kd.V (Kd.int .i64) 3 w' w.heap.size (fun k_=>((P0_ k_∨P1_ k_)∨w.heap.size≤k_)∧some k_≠((.slice Ao5 zi.length co5):Value).ownBlock) (.slice A1 l1.length c1) l1)∧Aside0 (Kd.N (Kd.slice 3 (Kd.int .i64)) 22 w' w.heap.size (fun k_=>((P0_ k_∨P1_ k_)∨w.heap.size≤k_)) (.slice Ao5 zi.length co5) zi)∧Aside0 (Below w.heap.size w w'))
 case atStart=>exact⟨(0),(pF),H',⟨Nat.le_refl _⟩,⟨pV HO0.out⟩,⟨pV HO1.out⟩,⟨by(with_reducible repeat(first|apply Kd.N_alloc|apply Kd.N_drewN|apply Kd.N_drew));exact z9.out⟩,⟨qB HB⟩⟩
 clear H'
 try clear c1
 obtain⟨yc,rfl,HA,HK1,za,zb,zo,HB⟩:=hrel
 cases gk with
 | zero=>exact absurd HA.out (by simp[fbs.l0])
 | succ k1=>?_
 have H:=HA.out
 clear HA
 simp only[fbs.l0] at H
 by_cases c6:yc<(zi.length:Int)
 ·rw[ip c6] at H
  have zai:=dT c6
  clear c6
  by_cases c7:0≤yc
  rotate_left
  ·rw[iN c7] at H
   cases H
  rw[ip c7] at H
  have c7b0:=dT c7
  clear c7
  by_cases c8:yc<(zi.length:Int)
  rotate_left
  ·rw[iN c8] at H
   cases H
  rw[ip c8] at H
  have c8b0:=dT c8
  clear c8
  replace H:=oB H
  obtain⟨zq,A90,H⟩:=H
  try dsimp only at H
  have A9:=aM A90
  clear A90
  by_cases c10:zq=0
  rotate_left
  ·rw[iN c10] at H
   have y7:=bF c10
   have y8:=nT c10
   replace H:=oi2 H
   obtain⟨rfl,rfl⟩:=H
   have yq:0≤(yc:Int):=oD
   have yr:yc<(zi.length:Int):=oD
   obtain⟨y9,ym,yn,y0,yk,yf,yg⟩:=at_L1 (Kd.N_reads' zo.out).2.2 yc yq yr
   cases y0
   obtain⟨yaa,yo,yp,yj⟩:=Kd.N_get zo.out [] yc yq (by first|exact yr|exact of_decide_eq_true pD|(have e_:=(Kd.N_reads' zo.out).1;omega))
   obtain⟨ua952_0,uc952_0,rfl,ul952_0,ge952_0⟩:=Kd.FK_slice_open yp
   have hv952_0:=yj 0 _ rfl
   rw[Nat.add_zero,show ((Kd.slice 3 (Kd.int .i64))).sz=1 from rfl,Nat.mul_one] at hv952_0
   replace hv952_0:=Option.some.inj (hv952_0.symm.trans yk)
   injection hv952_0 with hva_ hvn_ hvc_
   rw[hva_] at ge952_0
   rw[hvc_] at ul952_0
   have HL952_0:=aM (show Kd.V (Kd.int .i64) 3 _ w.heap.size _ _ (rd_L1 zi yc) from Kd.V_mk ul952_0 ge952_0)
   clear hva_ hvn_ hvc_ ge952_0 ul952_0
   clear yj yo
   have zm:=aM yg
   have zt:=aM yf
   clear yg yf
   go_wp2_with (first|((with_reducible refine gC 31 rfl ?_);refine gL 24 Try.func31 #[.slice ym (rd_L1 zi yc).length yn] ?_;(with_reducible refine(fcg.calls _ _ (rd_L1 zi yc) zq _ ?s1 zt.out A9.out).mono ?_);(case s1=>repeat(first|exact(by repeat(first|(with_reducible exact zm.out)|(with_reducible refine Kd.C_alloc ?_ _)|(with_reducible refine Kd.C_drewN ?_ _)|(with_reducible refine Kd.C_drew ?_)|exact zm.out))|(with_reducible refine Kd.C_alloc ?_ _)|(with_reducible refine Kd.C_drewN ?_ _)|(with_reducible refine Kd.C_drew ?_)));rintro e w' ⟨rfl,⟨nd,rfl⟩⟩;refine⟨_,rfl,?_⟩))
   go_ret2
   exact⟨_,pE,pN,qB HB⟩
  rw[ip c10] at H
  have y7:=bT c10
  have y8:=nF c10
  clear c10
  have H':=aM H
  clear H
  have yq:0≤(yc:Int):=oD
  have yr:yc<(zi.length:Int):=oD
  obtain⟨y9,ym,yn,y0,yk,yf,yg⟩:=at_L1 (Kd.N_reads' zo.out).2.2 yc yq yr
  cases y0
  obtain⟨yaa,yo,yp,yj⟩:=Kd.N_get zo.out [] yc yq (by first|exact yr|exact of_decide_eq_true pD|(have e_:=(Kd.N_reads' zo.out).1;omega))
  obtain⟨ua952_0,uc952_0,rfl,ul952_0,ge952_0⟩:=Kd.FK_slice_open yp
  have hv952_0:=yj 0 _ rfl
  rw[Nat.add_zero,show ((Kd.slice 3 (Kd.int .i64))).sz=1 from rfl,Nat.mul_one] at hv952_0
  replace hv952_0:=Option.some.inj (hv952_0.symm.trans yk)
  injection hv952_0 with hva_ hvn_ hvc_
  rw[hva_] at ge952_0
  rw[hvc_] at ul952_0
  have HL952_0:=aM (show Kd.V (Kd.int .i64) 3 _ w.heap.size _ _ (rd_L1 zi yc) from Kd.V_mk ul952_0 ge952_0)
  clear hva_ hvn_ hvc_ ge952_0 ul952_0
  clear yj yo
  have zm:=aM yg
  have zt:=aM yf
  clear yg yf
  go_wp2_with (first|((with_reducible refine gC 31 rfl ?_);refine gL 24 Try.func31 #[.slice ym (rd_L1 zi yc).length yn] ?_;(with_reducible refine(fcg.calls _ _ (rd_L1 zi yc) zq _ ?s1 zt.out A9.out).mono ?_);(case s1=>repeat(first|exact(by repeat(first|(with_reducible exact zm.out)|(with_reducible refine Kd.C_alloc ?_ _)|(with_reducible refine Kd.C_drewN ?_ _)|(with_reducible refine Kd.C_drew ?_)|exact zm.out))|(with_reducible refine Kd.C_alloc ?_ _)|(with_reducible refine Kd.C_drewN ?_ _)|(with_reducible refine Kd.C_drew ?_)));rintro e w' ⟨rfl,⟨nd,rfl⟩⟩;refine⟨_,rfl,?_⟩))
  go_roundg k1
  case measure=>have:=HK1.out;omega
  case rel=>exact⟨(wrap64 (yc+1)),(pF),H',⟨pO1 HK1⟩,⟨pV za.out⟩,⟨pV zb.out⟩,⟨by(with_reducible repeat(first|apply Kd.N_alloc|apply Kd.N_drewN|apply Kd.N_drew));exact zo.out⟩,⟨qB HB⟩⟩
 rw[iN c6] at H
 have zai:=dF c6
 clear c6
 have HC11:=aM H
 clear H
 go_upto_region 9 with(fail)
 go_cut [38] (fun v38 wc=>∃ (kq:Nat) (yl:Bool),v38=.bool yl∧Aside0 (fbs.j1 kq l0 l1 (l0.length:Int) (l1.length:Int) yl=some (r1,r2))∧Aside0 (kq≤k1)∧Aside0 (Kd.V (Kd.int .i64) 3 wc w.heap.size (fun k_=>((P0_ k_∨P1_ k_)∨w.heap.size≤k_)) (.slice A0 l0.length c0) l0)∧Aside0 (Kd.V (Kd.int .i64) 3 wc w.heap.size (fun k_=>((P0_ k_∨P1_ k_)∨w.heap.size≤k_)) (.slice A1 l1.length c1) l1)∧Aside0 (Below w.heap.size w wc))
 case first =>
  have H:=HC11.out
  clear HC11
  by_cases c12:(l0.length:Int)<2
  ·rw[ip c12] at H
   have zu:=dT c12
   have yab:decide (l0.length<2)=true:=decide_eq_true (by omega)
   clear c12
   (first|rw[zu]|(simp only[i64_w,i32_w];rw[zu])|skip)
   have H':=aM H
   clear H
   go_wp2
   go_meet
   case rel=>exact⟨_,(true),(pF),H',⟨pO1 HK1⟩,⟨by(with_reducible repeat(first|apply Kd.V_alloc|apply Kd.V_drewN|apply Kd.V_drew));exact Kd.V_mono za.out (fun _ hk=>hk.1)⟩,⟨by(with_reducible repeat(first|apply Kd.V_alloc|apply Kd.V_drewN|apply Kd.V_drew));exact Kd.V_mono zb.out (fun _ hk=>hk.1)⟩,⟨qB HB⟩⟩
  rw[iN c12] at H
  have zu:=dF c12
  have yab:decide (l0.length<2)=false:=decide_eq_false (by omega)
  clear c12
  (first|rw[zu]|(simp only[i64_w,i32_w];rw[zu])|skip)
  have H':=aM H
  clear H
  go_wp2
  go_meet
  case rel=>exact⟨_,(decide ((l1.length:Int)<2)),(pF),H',⟨pO1 HK1⟩,⟨by(with_reducible repeat(first|apply Kd.V_alloc|apply Kd.V_drewN|apply Kd.V_drew));exact Kd.V_mono za.out (fun _ hk=>hk.1)⟩,⟨by(with_reducible repeat(first|apply Kd.V_alloc|apply Kd.V_drewN|apply Kd.V_drew));exact Kd.V_mono zb.out (fun _ hk=>hk.1)⟩,⟨qB HB⟩⟩
 clear HC11
 try clear c1
 try clear zai
 obtain⟨kq,yl,rfl,HA,HJ10,za,zb,HB⟩:=hcut
 cases kq with
 | zero=>exact absurd HA.out (by simp[fbs.j1])
 | succ zv=>?_
 have H:=HA.out
 clear HA
 simp only[fbs.j1] at H
 by_cases c13:yl=true
 ·subst c13
  rw[ip rfl] at H
  replace H:=oi2 H
  obtain⟨rfl,rfl⟩:=H
  go_wp2
  go_ret2
  exact⟨_,pE,pN,qB HB⟩
 replace c13:=Bool.eq_false_iff.mpr c13
 subst c13
 rw[iN fT] at H
 obtain⟨ji14,hji14⟩:∃ j_:Int,(wrap64 ((l0.length:Int)-1))=j_:=⟨_,rfl⟩
 replace H:(if 0≤(ji14)then(if(ji14)<(l0.length:Int)then(if 0≤(wrap64 ((l1.length:Int)-2))then(if(wrap64 ((l1.length:Int)-2))<(l1.length:Int)then(if(rd l0 (ji14))=(rd l1 (wrap64 ((l1.length:Int)-2)))then(if 0≤(wrap64 ((l0.length:Int)-2))then(if(wrap64 ((l0.length:Int)-2))≤(l0.length:Int)then(if(wrap64 ((l1.length:Int)-2))≤(l1.length:Int)then((fcr.f zv (l0.take ((wrap64 ((l0.length:Int)-2)):Int).toNat) (l1.take ((wrap64 ((l1.length:Int)-2)):Int).toNat)).bind fun bt966=>(if bt966.2=0 then(if(wrap64 ((l0.length:Int)-2))<(l0.length:Int)then(if 0≤(wrap64 ((l1.length:Int)-1))then(if(wrap64 ((l1.length:Int)-1))<(l1.length:Int)then((some (([rd l0 (wrap64 ((l0.length:Int)-2)),rd l1 (wrap64 ((l1.length:Int)-1))]:List Int):List Int)).bind fun ze=>(if bt966.1.length+ze.length<17592186044416 then((some (bt966.1++ze:List Int)).bind fun zg=>((fcg.f zg).bind fun zf=>(if zf=0 then(some (zg,0))else(some (([]:List Int),zf)))))else(none)))else(none))else(none))else(none))else(some (([]:List Int),bt966.2))))else(none))else(none))else(none))else(some (([]:List Int),8)))else(none))else(none))else(none))else(none))=some (r1,r2):=by first|(rw[hji14] at H;exact H)|(simp only[hji14] at H ⊢;exact H)
 have hji14w:(IntKind.i64.wrap ((l0.length:Int)-1))=ji14:=(i64_w _).trans hji14
 by_cases c15:0≤(ji14)
 rotate_left
 ·rw[iN c15] at H
  cases H
 rw[ip c15] at H
 have c15b0:=dT c15
 clear c15
 by_cases c16:(ji14)<(l0.length:Int)
 rotate_left
 ·rw[iN c16] at H
  cases H
 rw[ip c16] at H
 have c16b0:=dT c16
 clear c16
 obtain⟨ji17,hji17⟩:∃ j_:Int,(wrap64 ((l1.length:Int)-2))=j_:=⟨_,rfl⟩
 replace H:(if 0≤(ji17)then(if(ji17)<(l1.length:Int)then(if(rd l0 (ji14))=(rd l1 (ji17))then(if 0≤(wrap64 ((l0.length:Int)-2))then(if(wrap64 ((l0.length:Int)-2))≤(l0.length:Int)then(if(ji17)≤(l1.length:Int)then((fcr.f zv (l0.take ((wrap64 ((l0.length:Int)-2)):Int).toNat) (l1.take ((ji17):Int).toNat)).bind fun bt966=>(if bt966.2=0 then(if(wrap64 ((l0.length:Int)-2))<(l0.length:Int)then(if 0≤(wrap64 ((l1.length:Int)-1))then(if(wrap64 ((l1.length:Int)-1))<(l1.length:Int)then((some (([rd l0 (wrap64 ((l0.length:Int)-2)),rd l1 (wrap64 ((l1.length:Int)-1))]:List Int):List Int)).bind fun ze=>(if bt966.1.length+ze.length<17592186044416 then((some (bt966.1++ze:List Int)).bind fun zg=>((fcg.f zg).bind fun zf=>(if zf=0 then(some (zg,0))else(some (([]:List Int),zf)))))else(none)))else(none))else(none))else(none))else(some (([]:List Int),bt966.2))))else(none))else(none))else(none))else(some (([]:List Int),8)))else(none))else(none))=some (r1,r2):=by first|(rw[hji17] at H;exact H)|(simp only[hji17] at H ⊢;exact H)
 have hji17w:(IntKind.i64.wrap ((l1.length:Int)-2))=ji17:=(i64_w _).trans hji17
 by_cases c18:0≤(ji17)
 rotate_left
 ·rw[iN c18] at H
  cases H
 rw[ip c18] at H
 have c18b0:=dT c18
 clear c18
 by_cases c19:(ji17)<(l1.length:Int)
 rotate_left
 ·rw[iN c19] at H
  cases H
 rw[ip c19] at H
 have c19b0:=dT c19
 clear c19
 by_cases c20:(rd l0 (ji14))=(rd l1 (ji17))
 rotate_left
 ·rw[iN c20] at H
  have yac:=bF c20
  have yad:=nT c20
  replace H:=oi2 H
  obtain⟨rfl,rfl⟩:=H
  try go_wp2
  replace za:=aM (Kd.V_drew za.out)
  replace zb:=aM (Kd.V_drew zb.out)
  replace HB:=aM (below_drew1 HB.out)
  obtain⟨ya,⟨⟩,yd,y1,y2⟩:=zI (Kd.V_reads' za.out).2.2 (ji14)
  obtain⟨yb,⟨⟩,ye,y3,y4⟩:=zI (Kd.V_reads' zb.out).2.2 (ji17)
  refine sT 11 [] (fun w'=>w'.cell? (ya.add ((ji14)).toNat)=some (.int .i64 (rd l0 (ji14)))∧w'.cell? (yb.add ((ji17)).toNat)=some (.int .i64 (rd l1 (ji17)))) fbs.tab11 fbs.bits11 ⟨yd,ye⟩ (fun hHeld HT_ HW_=>?_)
  generalize wc.drew=w62 at za zb HB yd ye hHeld ⊢
  refine pQ 0 39 11 1 HT_ ?_
  refine pQ 1 40 11 3 HT_ ?_
  refine pQ 2 41 11 7 HT_ ?_
  refine pQ 3 42 11 15 HT_ ?_
  refine pQ 5 44 11 47 HT_ ?_
  refine pQ 6 45 11 111 HT_ ?_
  refine pQ 7 46 11 239 HT_ ?_
  refine pQ 8 47 11 495 HT_ ?_
  refine pU2 4 43 11 511 HT_ HW_ hHeld ?_
  refine pU2 9 48 11 1023 HT_ HW_ hHeld ?_
  refine pQ 10 49 11 2047 HT_ ?_
  refine dN HT_ ?_
  try go_wp2
  go_ret2
  exact⟨_,by first|rfl|(simp[errW_none,errW_some] <;> rfl)|(simp only[← hji14,← hji17];first|rfl|(simp[errW_none,errW_some] <;> rfl))|(simp[*,errW_none,errW_some] <;> rfl),pN,qB HB⟩
 rw[ip c20] at H
 have yac:=bT c20
 have yad:=nF c20
 clear c20
 obtain⟨ji21,hji21⟩:∃ j_:Int,(wrap64 ((l0.length:Int)-2))=j_:=⟨_,rfl⟩
 replace H:(if 0≤(ji21)then(if(ji21)≤(l0.length:Int)then(if(ji17)≤(l1.length:Int)then((fcr.f zv (l0.take ((ji21):Int).toNat) (l1.take ((ji17):Int).toNat)).bind fun bt966=>(if bt966.2=0 then(if(ji21)<(l0.length:Int)then(if 0≤(wrap64 ((l1.length:Int)-1))then(if(wrap64 ((l1.length:Int)-1))<(l1.length:Int)then((some (([rd l0 (ji21),rd l1 (wrap64 ((l1.length:Int)-1))]:List Int):List Int)).bind fun ze=>(if bt966.1.length+ze.length<17592186044416 then((some (bt966.1++ze:List Int)).bind fun zg=>((fcg.f zg).bind fun zf=>(if zf=0 then(some (zg,0))else(some (([]:List Int),zf)))))else(none)))else(none))else(none))else(none))else(some (([]:List Int),bt966.2))))else(none))else(none))else(none))=some (r1,r2):=by first|(rw[hji21] at H;exact H)|(simp only[hji21] at H ⊢;exact H)
 have hji21w:(IntKind.i64.wrap ((l0.length:Int)-2))=ji21:=(i64_w _).trans hji21
 by_cases c22:0≤(ji21)
 rotate_left
 ·rw[iN c22] at H
  cases H
 rw[ip c22] at H
 have c22b0:=eq_true c22
 have c22b1:=dT c22
 clear c22
 by_cases c23:(ji21)≤(l0.length:Int)
 rotate_left
 ·rw[iN c23] at H
  cases H
 rw[ip c23] at H
 have c23b0:=eq_true c23
 have c23b1:=dT c23
 clear c23
 obtain⟨zj,zz⟩:∃ y_:List Int,y_=(l0.take ((ji21):Int).toNat):=⟨_,rfl⟩
 replace H:(if(ji17)≤(l1.length:Int)then((fcr.f zv zj (l1.take ((ji17):Int).toNat)).bind fun bt966=>(if bt966.2=0 then(if(ji21)<(l0.length:Int)then(if 0≤(wrap64 ((l1.length:Int)-1))then(if(wrap64 ((l1.length:Int)-1))<(l1.length:Int)then((some (([rd l0 (ji21),rd l1 (wrap64 ((l1.length:Int)-1))]:List Int):List Int)).bind fun ze=>(if bt966.1.length+ze.length<17592186044416 then((some (bt966.1++ze:List Int)).bind fun zg=>((fcg.f zg).bind fun zf=>(if zf=0 then(some (zg,0))else(some (([]:List Int),zf)))))else(none)))else(none))else(none))else(none))else(some (([]:List Int),bt966.2))))else(none))=some (r1,r2):=pH zz H
 have zr:=aM zz
 clear zz
 have c24b0:=eq_true (of_decide_eq_true pD:0≤(ji17))
 by_cases c25:(ji17)≤(l1.length:Int)
 rotate_left
 ·rw[iN c25] at H
  cases H
 rw[ip c25] at H
 have c25b0:=eq_true c25
 have c25b1:=dT c25
 clear c25
 obtain⟨zk,z0⟩:∃ y_:List Int,y_=(l1.take ((ji17):Int).toNat):=⟨_,rfl⟩
 replace H:((fcr.f zv zj zk).bind fun bt966=>(if bt966.2=0 then(if(ji21)<(l0.length:Int)then(if 0≤(wrap64 ((l1.length:Int)-1))then(if(wrap64 ((l1.length:Int)-1))<(l1.length:Int)then((some (([rd l0 (ji21),rd l1 (wrap64 ((l1.length:Int)-1))]:List Int):List Int)).bind fun ze=>(if bt966.1.length+ze.length<17592186044416 then((some (bt966.1++ze:List Int)).bind fun zg=>((fcg.f zg).bind fun zf=>(if zf=0 then(some (zg,0))else(some (([]:List Int),zf)))))else(none)))else(none))else(none))else(none))else(some (([]:List Int),bt966.2))))=some (r1,r2):=pH z0 H
 have zs:=aM z0
 clear z0
 replace H:=oB H
 obtain⟨⟨zp,zw⟩,zaj,H⟩:=H
 try dsimp only at H
 have A26:=aM zaj
 clear zaj
 by_cases c27:zw=0
 rotate_left
 ·rw[iN c27] at H
  have yae:=bF c27
  have yaf:=nT c27
  replace H:=oi2 H
  obtain⟨rfl,rfl⟩:=H
  try go_wp2
  replace za:=aM (Kd.V_drew za.out)
  replace zb:=aM (Kd.V_drew zb.out)
  replace HB:=aM (below_drew1 HB.out)
  obtain⟨ya,⟨⟩,yd,y1,y2⟩:=zI (Kd.V_reads' za.out).2.2 (ji14)
  obtain⟨yb,⟨⟩,ye,y3,y4⟩:=zI (Kd.V_reads' zb.out).2.2 (ji17)
  refine sT 11 [] (fun w'=>w'.cell? (ya.add ((ji14)).toNat)=some (.int .i64 (rd l0 (ji14)))∧w'.cell? (yb.add ((ji17)).toNat)=some (.int .i64 (rd l1 (ji17)))) fbs.tab11 fbs.bits11 ⟨yd,ye⟩ (fun hHeld HT_ HW_=>?_)
  generalize wc.drew=w57 at za zb HB yd ye hHeld ⊢
  refine pQ 0 39 11 1 HT_ ?_
  refine pQ 1 40 11 3 HT_ ?_
  refine pQ 2 41 11 7 HT_ ?_
  refine pQ 3 42 11 15 HT_ ?_
  refine pQ 5 44 11 47 HT_ ?_
  refine pQ 6 45 11 111 HT_ ?_
  refine pQ 7 46 11 239 HT_ ?_
  refine pQ 8 47 11 495 HT_ ?_
  refine pU2 4 43 11 511 HT_ HW_ hHeld ?_
  refine pU2 9 48 11 1023 HT_ HW_ hHeld ?_
  refine pQ 10 49 11 2047 HT_ ?_
  refine dN HT_ ?_
  try go_wp2
  replace za:=aM (Kd.V_drew za.out)
  replace zb:=aM (Kd.V_drew zb.out)
  replace HB:=aM (below_drew1 HB.out)
  have q59:((ji21):Int)≤((l0.length:Int):Int):=oD
  obtain⟨i059,yu,_,hsz59,_⟩:=info_parts info3
  have hroom59:l0.length≤c0:=(Kd.V_reads' za.out).2.1
  have hC59:Kd.F (Kd.int .i64) _ _ (some ya) l0.length l0:=(Kd.V_at (base:=w.heap.size) za.out).2.2
  have hcut59:=cut_to (P:=Try.prog) 22 3 .i64 Try.underlying22 yu (some ya) l0.length c0 (ji21) (of_decide_eq_true pD) q59 hroom59
  have hr59:=Kd.F_take (m:=((ji21):Int).toNat) hC59 (by omega)
  have zac:zj.length=((ji21):Int).toNat:=(by rw[zr.out,List.length_take];omega)
  rw[← zr.out] at hr59
  rw[← zac] at hcut59
  have zc:=aM (show Kd.V (Kd.int .i64) 3 _ w.heap.size _ (.slice (some ya) zj.length c0) zj from Kd.V_mk (by omega) hr59)
  have HC960:=aM (show zj.length≤c0 from by omega)
  clear hr59 hC59 hroom59 yu hsz59
  have KY59:=aM zac
  clear zac
  replace q59:=eq_true q59
  have q60:((ji17):Int)≤((l1.length:Int):Int):=oD
  obtain⟨i060,yv,_,hsz60,_⟩:=info_parts info3
  have hroom60:l1.length≤c1:=(Kd.V_reads' zb.out).2.1
  have hC60:Kd.F (Kd.int .i64) _ _ (some yb) l1.length l1:=(Kd.V_at (base:=w.heap.size) zb.out).2.2
  have hcut60:=cut_to (P:=Try.prog) 22 3 .i64 Try.underlying22 yv (some yb) l1.length c1 (ji17) (of_decide_eq_true pD) q60 hroom60
  have hr60:=Kd.F_take (m:=((ji17):Int).toNat) hC60 (by omega)
  have zad:zk.length=((ji17):Int).toNat:=(by rw[zs.out,List.length_take];omega)
  rw[← zs.out] at hr60
  rw[← zad] at hcut60
  have zd:=aM (show Kd.V (Kd.int .i64) 3 _ w.heap.size _ (.slice (some yb) zk.length c1) zk from Kd.V_mk (by omega) hr60)
  have HC965:=aM (show zk.length≤c1 from by omega)
  clear hr60 hC60 hroom60 yv hsz60
  have KY60:=aM zad
  clear zad
  replace q60:=eq_true q60
  refine sT 14 [] (fun w'=>True) fbs.tab13 fbs.bits13 trivial (fun hHeld HT_ HW_=>?_)
  generalize w57.drew=w58 at za zb HB zc zd hHeld ⊢
  refine pQ 0 51 14 1 HT_ ?_
  refine pQ 1 52 14 3 HT_ ?_
  refine pQ 2 53 14 7 HT_ ?_
  refine pQ 3 54 14 15 HT_ ?_
  refine pQ 4 55 14 31 HT_ ?_
  refine pQ 5 56 14 63 HT_ ?_
  refine pQ 6 57 14 127 HT_ ?_
  refine pQ 7 58 14 255 HT_ ?_
  refine oN 8 59 14 511 HT_ (fun K hK=>?_)
  refine gS Try.func75 #[.slice (some ya) zj.length c0,.slice (some yb) zk.length c1] ?_
  with_reducible refine(fcr.calls zv (fun k_=>((P0_ k_∨P1_ k_)∨w.heap.size≤k_)) _ _ zj (fun k_=>((P0_ k_∨P1_ k_)∨w.heap.size≤k_)) _ _ zk zp zw _ ?s1 ?s2 A26.out).mono ?_
  (case s1=>exact zc.out)
  (case s2=>exact zd.out)
  rintro e w61 ⟨z7,rfl,ho0,hb⟩
  refine⟨_,rfl,?_⟩
  replace za:=aM (Kd.V_elder' (pV za.out) (Kd.R_base ho0) hb)
  replace zb:=aM (Kd.V_elder' (pV zb.out) (Kd.R_base ho0) hb)
  replace zc:=aM (Kd.V_elder' (pV zc.out) (Kd.R_base ho0) hb)
  replace zd:=aM (Kd.V_elder' (pV zd.out) (Kd.R_base ho0) hb)
  have zh:=aM (Kd.R_lower (Kd.R_newM (M:=fun k_=>(w.heap.size≤k_)) (Kd.R_mono (ok':=fun k_=>True) ho0 (fun _ hk_=>trivial)) (below_size (qB HB)) (fun k_ h_=>h_)) (below_size (qB HB)))
  replace HB:=bS (qB HB) hb
  refine hK.out _ _ trivial (fun hHeld=>?_)
  clear hK K
  refine nM 59 ?_
  refine pQ 9 50 14 1023 HT_ ?_
  refine pQ 10 60 14 2047 HT_ ?_
  refine pQ 11 61 14 4095 HT_ ?_
  refine pQ 12 11 14 8191 HT_ ?_
  refine pQ 13 12 14 16383 HT_ ?_
  refine dN HT_ ?_
  try go_wp2
  go_ret2
  exact⟨_,by first|rfl|(simp[errW_none,errW_some] <;> rfl)|(simp only[← hji14,← hji17,← hji21];first|rfl|(simp[errW_none,errW_some] <;> rfl))|(simp[*,errW_none,errW_some] <;> rfl),pN,qB HB⟩
 rw[ip c27] at H
 have yae:=bT c27
 have yaf:=nF c27
 clear c27
 by_cases c28:(ji21)<(l0.length:Int)
 rotate_left
 ·rw[iN c28] at H
  cases H
 rw[ip c28] at H
 have c28b0:=dT c28
 clear c28
 obtain⟨ji29,hji29⟩:∃ j_:Int,(wrap64 ((l1.length:Int)-1))=j_:=⟨_,rfl⟩
 replace H:(if 0≤(ji29)then(if(ji29)<(l1.length:Int)then((some (([rd l0 (ji21),rd l1 (ji29)]:List Int):List Int)).bind fun ze=>(if zp.length+ze.length<17592186044416 then((some (zp++ze:List Int)).bind fun zg=>((fcg.f zg).bind fun zf=>(if zf=0 then(some (zg,0))else(some (([]:List Int),zf)))))else(none)))else(none))else(none))=some (r1,r2):=by first|(rw[hji29] at H;exact H)|(simp only[hji29] at H ⊢;exact H)
 (try rw[hji29] at A26)
 have hji29w:(IntKind.i64.wrap ((l1.length:Int)-1))=ji29:=(i64_w _).trans hji29
 by_cases c30:0≤(ji29)
 rotate_left
 ·rw[iN c30] at H
  cases H
 rw[ip c30] at H
 have c30b0:=dT c30
 clear c30
 by_cases c31:(ji29)<(l1.length:Int)
 rotate_left
 ·rw[iN c31] at H
  cases H
 rw[ip c31] at H
 have c31b0:=dT c31
 clear c31
 obtain⟨ze,z1⟩:∃ y_:List Int,y_=(([rd l0 (ji21),rd l1 (ji29)]:List Int)):=⟨_,rfl⟩
 replace H:(if zp.length+ze.length<17592186044416 then((some (zp++ze:List Int)).bind fun zg=>((fcg.f zg).bind fun zf=>(if zf=0 then(some (zg,0))else(some (([]:List Int),zf)))))else(none))=some (r1,r2):=pH z1 H
 have zx:=aM z1
 clear z1
 by_cases c32:zp.length+ze.length<17592186044416
 rotate_left
 ·rw[iN c32] at H
  cases H
 rw[ip c32] at H
 have zaa:=aM c32
 clear c32
 obtain⟨zg,z2⟩:∃ y_:List Int,y_=(zp++ze):=⟨_,rfl⟩
 replace H:((fcg.f zg).bind fun zf=>(if zf=0 then(some (zg,0))else(some (([]:List Int),zf))))=some (r1,r2):=pH z2 H
 have zab:=aM z2
 clear z2
 replace H:=oB H
 obtain⟨zf,zak,H⟩:=H
 try dsimp only at H
 have A33:=aM zak
 clear zak
 by_cases c34:zf=0
 rotate_left
 ·rw[iN c34] at H
  have yag:=bF c34
  have yah:=nT c34
  replace H:=oi2 H
  obtain⟨rfl,rfl⟩:=H
  try go_wp2
  replace za:=aM (Kd.V_drew za.out)
  replace zb:=aM (Kd.V_drew zb.out)
  replace HB:=aM (below_drew1 HB.out)
  obtain⟨ya,⟨⟩,yd,y1,y2⟩:=zI (Kd.V_reads' za.out).2.2 (ji14)
  obtain⟨yb,⟨⟩,ye,y3,y4⟩:=zI (Kd.V_reads' zb.out).2.2 (ji17)
  refine sT 11 [] (fun w'=>w'.cell? (ya.add ((ji14)).toNat)=some (.int .i64 (rd l0 (ji14)))∧w'.cell? (yb.add ((ji17)).toNat)=some (.int .i64 (rd l1 (ji17)))) fbs.tab11 fbs.bits11 ⟨yd,ye⟩ (fun hHeld HT_ HW_=>?_)
  generalize wc.drew=w46 at za zb HB yd ye hHeld ⊢
  refine pQ 0 39 11 1 HT_ ?_
  refine pQ 1 40 11 3 HT_ ?_
  refine pQ 2 41 11 7 HT_ ?_
  refine pQ 3 42 11 15 HT_ ?_
  refine pQ 5 44 11 47 HT_ ?_
  refine pQ 6 45 11 111 HT_ ?_
  refine pQ 7 46 11 239 HT_ ?_
  refine pQ 8 47 11 495 HT_ ?_
  refine pU2 4 43 11 511 HT_ HW_ hHeld ?_
  refine pU2 9 48 11 1023 HT_ HW_ hHeld ?_
  refine pQ 10 49 11 2047 HT_ ?_
  refine dN HT_ ?_
  try go_wp2
  replace za:=aM (Kd.V_drew za.out)
  replace zb:=aM (Kd.V_drew zb.out)
  replace HB:=aM (below_drew1 HB.out)
  have q48:((ji21):Int)≤((l0.length:Int):Int):=oD
  obtain⟨i048,yw,_,hsz48,_⟩:=info_parts info3
  have hroom48:l0.length≤c0:=(Kd.V_reads' za.out).2.1
  have hC48:Kd.F (Kd.int .i64) _ _ (some ya) l0.length l0:=(Kd.V_at (base:=w.heap.size) za.out).2.2
  have hcut48:=cut_to (P:=Try.prog) 22 3 .i64 Try.underlying22 yw (some ya) l0.length c0 (ji21) (of_decide_eq_true pD) q48 hroom48
  have hr48:=Kd.F_take (m:=((ji21):Int).toNat) hC48 (by omega)
  have zae:zj.length=((ji21):Int).toNat:=(by rw[zr.out,List.length_take];omega)
  rw[← zr.out] at hr48
  rw[← zae] at hcut48
  have zc:=aM (show Kd.V (Kd.int .i64) 3 _ w.heap.size _ (.slice (some ya) zj.length c0) zj from Kd.V_mk (by omega) hr48)
  have HC960:=aM (show zj.length≤c0 from by omega)
  clear hr48 hC48 hroom48 yw hsz48
  have KY48:=aM zae
  clear zae
  replace q48:=eq_true q48
  have q49:((ji17):Int)≤((l1.length:Int):Int):=oD
  obtain⟨i049,yx,_,hsz49,_⟩:=info_parts info3
  have hroom49:l1.length≤c1:=(Kd.V_reads' zb.out).2.1
  have hC49:Kd.F (Kd.int .i64) _ _ (some yb) l1.length l1:=(Kd.V_at (base:=w.heap.size) zb.out).2.2
  have hcut49:=cut_to (P:=Try.prog) 22 3 .i64 Try.underlying22 yx (some yb) l1.length c1 (ji17) (of_decide_eq_true pD) q49 hroom49
  have hr49:=Kd.F_take (m:=((ji17):Int).toNat) hC49 (by omega)
  have zaf:zk.length=((ji17):Int).toNat:=(by rw[zs.out,List.length_take];omega)
  rw[← zs.out] at hr49
  rw[← zaf] at hcut49
  have zd:=aM (show Kd.V (Kd.int .i64) 3 _ w.heap.size _ (.slice (some yb) zk.length c1) zk from Kd.V_mk (by omega) hr49)
  have HC965:=aM (show zk.length≤c1 from by omega)
  clear hr49 hC49 hroom49 yx hsz49
  have KY49:=aM zaf
  clear zaf
  replace q49:=eq_true q49
  refine sT 14 [] (fun w'=>True) fbs.tab13 fbs.bits13 trivial (fun hHeld HT_ HW_=>?_)
  generalize w46.drew=w47 at za zb HB zc zd hHeld ⊢
  refine pQ 0 51 14 1 HT_ ?_
  refine pQ 1 52 14 3 HT_ ?_
  refine pQ 2 53 14 7 HT_ ?_
  refine pQ 3 54 14 15 HT_ ?_
  refine pQ 4 55 14 31 HT_ ?_
  refine pQ 5 56 14 63 HT_ ?_
  refine pQ 6 57 14 127 HT_ ?_
  refine pQ 7 58 14 255 HT_ ?_
  refine oN 8 59 14 511 HT_ (fun K hK=>?_)
  refine gS Try.func75 #[.slice (some ya) zj.length c0,.slice (some yb) zk.length c1] ?_
  with_reducible refine(fcr.calls zv (fun k_=>((P0_ k_∨P1_ k_)∨w.heap.size≤k_)) _ _ zj (fun k_=>((P0_ k_∨P1_ k_)∨w.heap.size≤k_)) _ _ zk zp zw _ ?s1 ?s2 A26.out).mono ?_
  (case s1=>exact zc.out)
  (case s2=>exact zd.out)
  rintro e w50 ⟨z7,rfl,ho0,hb⟩
  refine⟨_,rfl,?_⟩
  replace za:=aM (Kd.V_elder' (pV za.out) (Kd.R_base ho0) hb)
  replace zb:=aM (Kd.V_elder' (pV zb.out) (Kd.R_base ho0) hb)
  replace zc:=aM (Kd.V_elder' (pV zc.out) (Kd.R_base ho0) hb)
  replace zd:=aM (Kd.V_elder' (pV zd.out) (Kd.R_base ho0) hb)
  have zh:=aM (Kd.R_lower (Kd.R_newM (M:=fun k_=>(w.heap.size≤k_)) (Kd.R_mono (ok':=fun k_=>True) ho0 (fun _ hk_=>trivial)) (below_size (qB HB)) (fun k_ h_=>h_)) (below_size (qB HB)))
  replace HB:=bS (qB HB) hb
  refine hK.out _ _ trivial (fun hHeld=>?_)
  clear hK K
  refine nM 59 ?_
  refine pQ 9 50 14 1023 HT_ ?_
  refine pQ 10 60 14 2047 HT_ ?_
  refine pQ 11 61 14 4095 HT_ ?_
  refine pQ 12 11 14 8191 HT_ ?_
  refine pQ 13 12 14 16383 HT_ ?_
  refine dN HT_ ?_
  try go_wp2
  replace za:=aM (Kd.V_drew za.out)
  replace zb:=aM (Kd.V_drew zb.out)
  replace zc:=aM (Kd.V_drew zc.out)
  replace zd:=aM (Kd.V_drew zd.out)
  replace zh:=aM (Kd.R_drew zh.out)
  replace HB:=aM (below_drew1 HB.out)
  obtain⟨ys,y5,yh,yam,yan⟩:=zI (Kd.V_reads' za.out).2.2 (ji21)
  obtain rfl:ya=ys:=(by injection y5)
  obtain⟨yt,y6,yi,yao,yap⟩:=zI (Kd.V_reads' zb.out).2.2 (ji29)
  obtain rfl:yb=yt:=(by injection y6)
  refine sT 14 [12] (fun w'=>w'.cell? (ya.add ((ji21)).toNat)=some (.int .i64 (rd l0 (ji21)))∧w'.cell? (yb.add ((ji29)).toNat)=some (.int .i64 (rd l1 (ji29)))) fbs.tab16 fbs.bits16 ⟨yh,yi⟩ (fun hHeld HT_ HW_=>?_)
  generalize w50.drew=w51 at za zb zc zd zh HB yh yi hHeld ⊢
  refine pQ 0 65 14 1 HT_ ?_
  refine pQ 1 66 14 3 HT_ ?_
  refine pQ 2 67 14 7 HT_ ?_
  refine pQ 3 68 14 15 HT_ ?_
  refine pQ 4 69 14 31 HT_ ?_
  refine pQ 6 71 14 95 HT_ ?_
  refine pQ 7 72 14 223 HT_ ?_
  refine pQ 8 73 14 479 HT_ ?_
  refine pQ 9 74 14 991 HT_ ?_
  refine pU2 5 70 14 1023 HT_ HW_ hHeld ?_
  refine pU2 10 75 14 2047 HT_ HW_ hHeld ?_
  refine oN 11 76 14 4095 HT_ (fun K hK=>?_)
  refine Kd.R_lit_step (Kd.int .i64) _ 3 ?hg (N:=76) ?hd (xs:=([rd l0 (ji21),rd l1 (ji29)]:List Int)) (inner:=[.int .i64 (rd l0 (ji21)),.int .i64 (rd l1 (ji29))]) (ok:=fun _=>True) (okp:=fun _=>True) ?hr ?hp (fun _ hk=>hk) trivial (Below.refl _ _) (Nat.le_refl _) (by simp) ?_;(case hd=>rfl);(case hg=>rfl);(case hr=>first|(go_simp;done)|(go_simp;rfl));(case hp=>exact(Reps.one (show Kd.M (Kd.int .i64) _ _ _ (rd l0 (ji21)) [.int .i64 (rd l0 (ji21))] from rfl) (Reps.one (show Kd.M (Kd.int .i64) _ _ _ (rd l1 (ji29)) [.int .i64 (rd l1 (ji29))] from rfl) (Reps.none _ _))))
  intro v973 w52 ho53 hb hg_ hnew_
  have HS0_:=(hb.cell (World.block_lt_of_cell? _ _ (hHeld.1))).trans (hHeld.1)
  have HS1_:=(hb.cell (World.block_lt_of_cell? _ _ (hHeld.2))).trans (hHeld.2)
  clear hg_ hnew_
  (first|rw[← zx.out] at ho53|(simp only[Int.reduceToNat] at ho53;rw[← zx.out] at ho53))
  replace za:=aM (Kd.V_elder' (pV za.out) (Kd.R_base ho53) hb)
  replace zb:=aM (Kd.V_elder' (pV zb.out) (Kd.R_base ho53) hb)
  replace zc:=aM (Kd.V_elder' (pV zc.out) (Kd.R_base ho53) hb)
  replace zd:=aM (Kd.V_elder' (pV zd.out) (Kd.R_base ho53) hb)
  have zl:=aM (Kd.R_lower (Kd.R_new' (Kd.R_newM (M:=fun k_=>(w.heap.size≤k_)) ho53 (below_size (qB HB)) (fun k_ h_=>h_)) (Kd.R_lt (pR zh.out))) (below_size (qB HB)))
  replace zh:=eR zh ho53 hb
  replace HB:=bS (qB HB) hb
  clear hb ho53
  obtain⟨z3,z4,zal⟩:=Kd.R_slice zl.out
  (first|subst zal|(injection zal with f1_ f2_ f3_;have f4_:=f1_.symm;have f5_:=f3_.symm;clear f1_ f2_ f3_;subst f4_;subst f5_))
  refine hK.out _ _ ⟨HS0_,HS1_⟩ (fun hHeld=>?_)
  clear hK K
  refine nM 76 ?_
  refine last_ (i:=12) (N:=some 77) (bm 14 8191) rfl rfl (one_of HT_.out (by kernel_rfl)) (by decide) (fun K hK=>?_)
  refine Kd.R_append_rows_step (Kd.int .i64) (w0:=w) w.heap.size (by rfl) (.tmp 65) (.tmp 76) 22 3 (.int .i64 0) 8 rfl Try.underlying22 info3 rfl (by decide) (by omega) z7 zp ze _ _ _ (fun k_=>(w.heap.size≤k_)∧some k_≠(.slice z3 ze.length z4:Value).ownBlock) (fun _=>False) rfl rfl ?aO ?aR (fun _ _ h=>h) (fun _ h=>h.elim) ?aF ?aB ?aS ?aL ?_
  (case aR=>exact sR zl)
  (case aB=>exact(qB HB))
  (case aF=>exact(fun k_ hk=>⟨(Nat.le_trans (below_size (qB HB)) hk),Kd.fresh' (Kd.R_lt (pR zl.out)) k_ hk⟩))
  (case aO=>exact(by(with_reducible repeat(first|apply rA|apply rN|apply rD));exact Kd.R_mono zh.out (fun _ hk=>⟨hk.1.1,hk.2⟩)))
  (case aS=>exact(below_size (qB HB)))
  (case aL=>have:=zaa.out;omega)
  intro v976 w54 ho hb hg hat
  rw[← zab.out] at ho
  replace za:=aM (Kd.V_afterv (ok:=(fun k_=>((P0_ k_∨P1_ k_)∨w.heap.size≤k_)∧some k_≠(.slice z3 ze.length z4:Value).ownBlock)) (by(with_reducible repeat(first|apply Kd.V_alloc|apply Kd.V_drewN|apply Kd.V_drew));exact Kd.V_mono za.out (fun _ hk=>⟨⟨hk.1.1,hk.2⟩,hk.1.2⟩)) hg hat)
  replace zb:=aM (Kd.V_afterv (ok:=(fun k_=>((P0_ k_∨P1_ k_)∨w.heap.size≤k_)∧some k_≠(.slice z3 ze.length z4:Value).ownBlock)) (by(with_reducible repeat(first|apply Kd.V_alloc|apply Kd.V_drewN|apply Kd.V_drew));exact Kd.V_mono zb.out (fun _ hk=>⟨⟨hk.1.1,hk.2⟩,hk.1.2⟩)) hg hat)
  replace zc:=aM (Kd.V_afterv (ok:=(fun k_=>((P0_ k_∨P1_ k_)∨w.heap.size≤k_)∧some k_≠(.slice z3 ze.length z4:Value).ownBlock)) (by(with_reducible repeat(first|apply Kd.V_alloc|apply Kd.V_drewN|apply Kd.V_drew));exact Kd.V_mono zc.out (fun _ hk=>⟨⟨hk.1.1,hk.2⟩,hk.1.2⟩)) hg hat)
  replace zd:=aM (Kd.V_afterv (ok:=(fun k_=>((P0_ k_∨P1_ k_)∨w.heap.size≤k_)∧some k_≠(.slice z3 ze.length z4:Value).ownBlock)) (by(with_reducible repeat(first|apply Kd.V_alloc|apply Kd.V_drewN|apply Kd.V_drew));exact Kd.V_mono zd.out (fun _ hk=>⟨⟨hk.1.1,hk.2⟩,hk.1.2⟩)) hg hat)
  replace zl:=aM (Kd.R_after (ok:=(fun k_=>(w.heap.size≤k_))) (by(with_reducible repeat(first|apply rA|apply rN|apply rD));exact Kd.R_mono zl.out (fun _ hk=>⟨hk.1.1,hk.2⟩)) hg hat)
  replace HB:=aM (hb)
  have zn:=aM (ho)
  clear zh
  clear ho hb hg hat
  refine hK.out _ _ ?_
  clear hK K
  refine nM 77 ?_
  refine pQ 13 13 14 16383 HT_ ?_
  refine dN HT_ ?_
  obtain⟨yaq,yar,yas⟩:=Kd.R_slice zn.out
  subst yas
  try go_wp2_with (first|((with_reducible refine gC 31 rfl ?_);refine gL 79 Try.func31 #[.slice yaq zg.length yar] ?_;(with_reducible refine(fcg.calls _ _ zg zf _ ?s1 ?s2 A33.out).mono ?_);(case s1=>exact sR zn);(case s2=>exact sL zn);rintro e w' ⟨rfl,⟨nd,rfl⟩⟩;refine⟨_,rfl,?_⟩))
  go_ret2
  exact⟨_,by first|rfl|(simp[errW_none,errW_some] <;> rfl)|(simp only[← hji14,← hji17,← hji21,← hji29];first|rfl|(simp[errW_none,errW_some] <;> rfl))|(simp[*,errW_none,errW_some] <;> rfl),pN,qB HB⟩
 rw[ip c34] at H
 have yag:=bT c34
 have yah:=nF c34
 clear c34
 replace H:=oi2 H
 obtain⟨rfl,rfl⟩:=H
 try go_wp2
 replace za:=aM (Kd.V_drew za.out)
 replace zb:=aM (Kd.V_drew zb.out)
 replace HB:=aM (below_drew1 HB.out)
 obtain⟨ya,⟨⟩,yd,y1,y2⟩:=zI (Kd.V_reads' za.out).2.2 (ji14)
 obtain⟨yb,⟨⟩,ye,y3,y4⟩:=zI (Kd.V_reads' zb.out).2.2 (ji17)
 refine sT 11 [] (fun w'=>w'.cell? (ya.add ((ji14)).toNat)=some (.int .i64 (rd l0 (ji14)))∧w'.cell? (yb.add ((ji17)).toNat)=some (.int .i64 (rd l1 (ji17)))) fbs.tab11 fbs.bits11 ⟨yd,ye⟩ (fun hHeld HT_ HW_=>?_)
 generalize wc.drew=w35 at za zb HB yd ye hHeld ⊢
 refine pQ 0 39 11 1 HT_ ?_
 refine pQ 1 40 11 3 HT_ ?_
 refine pQ 2 41 11 7 HT_ ?_
 refine pQ 3 42 11 15 HT_ ?_
 refine pQ 5 44 11 47 HT_ ?_
 refine pQ 6 45 11 111 HT_ ?_
 refine pQ 7 46 11 239 HT_ ?_
 refine pQ 8 47 11 495 HT_ ?_
 refine pU2 4 43 11 511 HT_ HW_ hHeld ?_
 refine pU2 9 48 11 1023 HT_ HW_ hHeld ?_
 refine pQ 10 49 11 2047 HT_ ?_
 refine dN HT_ ?_
 try go_wp2
 replace za:=aM (Kd.V_drew za.out)
 replace zb:=aM (Kd.V_drew zb.out)
 replace HB:=aM (below_drew1 HB.out)
 have q37:((ji21):Int)≤((l0.length:Int):Int):=oD
 obtain⟨i037,yy,_,hsz37,_⟩:=info_parts info3
 have hroom37:l0.length≤c0:=(Kd.V_reads' za.out).2.1
 have hC37:Kd.F (Kd.int .i64) _ _ (some ya) l0.length l0:=(Kd.V_at (base:=w.heap.size) za.out).2.2
 have hcut37:=cut_to (P:=Try.prog) 22 3 .i64 Try.underlying22 yy (some ya) l0.length c0 (ji21) (of_decide_eq_true pD) q37 hroom37
 have hr37:=Kd.F_take (m:=((ji21):Int).toNat) hC37 (by omega)
 have zag:zj.length=((ji21):Int).toNat:=(by rw[zr.out,List.length_take];omega)
 rw[← zr.out] at hr37
 rw[← zag] at hcut37
 have zc:=aM (show Kd.V (Kd.int .i64) 3 _ w.heap.size _ (.slice (some ya) zj.length c0) zj from Kd.V_mk (by omega) hr37)
 have HC960:=aM (show zj.length≤c0 from by omega)
 clear hr37 hC37 hroom37 yy hsz37
 have KY37:=aM zag
 clear zag
 replace q37:=eq_true q37
 have q38:((ji17):Int)≤((l1.length:Int):Int):=oD
 obtain⟨i038,yz,_,hsz38,_⟩:=info_parts info3
 have hroom38:l1.length≤c1:=(Kd.V_reads' zb.out).2.1
 have hC38:Kd.F (Kd.int .i64) _ _ (some yb) l1.length l1:=(Kd.V_at (base:=w.heap.size) zb.out).2.2
 have hcut38:=cut_to (P:=Try.prog) 22 3 .i64 Try.underlying22 yz (some yb) l1.length c1 (ji17) (of_decide_eq_true pD) q38 hroom38
 have hr38:=Kd.F_take (m:=((ji17):Int).toNat) hC38 (by omega)
 have zah:zk.length=((ji17):Int).toNat:=(by rw[zs.out,List.length_take];omega)
 rw[← zs.out] at hr38
 rw[← zah] at hcut38
 have zd:=aM (show Kd.V (Kd.int .i64) 3 _ w.heap.size _ (.slice (some yb) zk.length c1) zk from Kd.V_mk (by omega) hr38)
 have HC965:=aM (show zk.length≤c1 from by omega)
 clear hr38 hC38 hroom38 yz hsz38
 have KY38:=aM zah
 clear zah
 replace q38:=eq_true q38
 refine sT 14 [] (fun w'=>True) fbs.tab13 fbs.bits13 trivial (fun hHeld HT_ HW_=>?_)
 generalize w35.drew=w36 at za zb HB zc zd hHeld ⊢
 refine pQ 0 51 14 1 HT_ ?_
 refine pQ 1 52 14 3 HT_ ?_
 refine pQ 2 53 14 7 HT_ ?_
 refine pQ 3 54 14 15 HT_ ?_
 refine pQ 4 55 14 31 HT_ ?_
 refine pQ 5 56 14 63 HT_ ?_
 refine pQ 6 57 14 127 HT_ ?_
 refine pQ 7 58 14 255 HT_ ?_
 refine oN 8 59 14 511 HT_ (fun K hK=>?_)
 refine gS Try.func75 #[.slice (some ya) zj.length c0,.slice (some yb) zk.length c1] ?_
 with_reducible refine(fcr.calls zv (fun k_=>((P0_ k_∨P1_ k_)∨w.heap.size≤k_)) _ _ zj (fun k_=>((P0_ k_∨P1_ k_)∨w.heap.size≤k_)) _ _ zk zp zw _ ?s1 ?s2 A26.out).mono ?_
 (case s1=>exact zc.out)
 (case s2=>exact zd.out)
 rintro e w39 ⟨z7,rfl,ho0,hb⟩
 refine⟨_,rfl,?_⟩
 replace za:=aM (Kd.V_elder' (pV za.out) (Kd.R_base ho0) hb)
 replace zb:=aM (Kd.V_elder' (pV zb.out) (Kd.R_base ho0) hb)
 replace zc:=aM (Kd.V_elder' (pV zc.out) (Kd.R_base ho0) hb)
 replace zd:=aM (Kd.V_elder' (pV zd.out) (Kd.R_base ho0) hb)
 have zh:=aM (Kd.R_lower (Kd.R_newM (M:=fun k_=>(w.heap.size≤k_)) (Kd.R_mono (ok':=fun k_=>True) ho0 (fun _ hk_=>trivial)) (below_size (qB HB)) (fun k_ h_=>h_)) (below_size (qB HB)))
 replace HB:=bS (qB HB) hb
 refine hK.out _ _ trivial (fun hHeld=>?_)
 clear hK K
 refine nM 59 ?_
 refine pQ 9 50 14 1023 HT_ ?_
 refine pQ 10 60 14 2047 HT_ ?_
 refine pQ 11 61 14 4095 HT_ ?_
 refine pQ 12 11 14 8191 HT_ ?_
 refine pQ 13 12 14 16383 HT_ ?_
 refine dN HT_ ?_
 try go_wp2
 replace za:=aM (Kd.V_drew za.out)
 replace zb:=aM (Kd.V_drew zb.out)
 replace zc:=aM (Kd.V_drew zc.out)
 replace zd:=aM (Kd.V_drew zd.out)
 replace zh:=aM (Kd.R_drew zh.out)
 replace HB:=aM (below_drew1 HB.out)
 obtain⟨ys,y5,yh,yam,yan⟩:=zI (Kd.V_reads' za.out).2.2 (ji21)
 obtain rfl:ya=ys:=(by injection y5)
 obtain⟨yt,y6,yi,yao,yap⟩:=zI (Kd.V_reads' zb.out).2.2 (ji29)
 obtain rfl:yb=yt:=(by injection y6)
 refine sT 14 [12] (fun w'=>w'.cell? (ya.add ((ji21)).toNat)=some (.int .i64 (rd l0 (ji21)))∧w'.cell? (yb.add ((ji29)).toNat)=some (.int .i64 (rd l1 (ji29)))) fbs.tab16 fbs.bits16 ⟨yh,yi⟩ (fun hHeld HT_ HW_=>?_)
 generalize w39.drew=w40 at za zb zc zd zh HB yh yi hHeld ⊢
 refine pQ 0 65 14 1 HT_ ?_
 refine pQ 1 66 14 3 HT_ ?_
 refine pQ 2 67 14 7 HT_ ?_
 refine pQ 3 68 14 15 HT_ ?_
 refine pQ 4 69 14 31 HT_ ?_
 refine pQ 6 71 14 95 HT_ ?_
 refine pQ 7 72 14 223 HT_ ?_
 refine pQ 8 73 14 479 HT_ ?_
 refine pQ 9 74 14 991 HT_ ?_
 refine pU2 5 70 14 1023 HT_ HW_ hHeld ?_
 refine pU2 10 75 14 2047 HT_ HW_ hHeld ?_
 refine oN 11 76 14 4095 HT_ (fun K hK=>?_)
 refine Kd.R_lit_step (Kd.int .i64) _ 3 ?hg (N:=76) ?hd (xs:=([rd l0 (ji21),rd l1 (ji29)]:List Int)) (inner:=[.int .i64 (rd l0 (ji21)),.int .i64 (rd l1 (ji29))]) (ok:=fun _=>True) (okp:=fun _=>True) ?hr ?hp (fun _ hk=>hk) trivial (Below.refl _ _) (Nat.le_refl _) (by simp) ?_;(case hd=>rfl);(case hg=>rfl);(case hr=>first|(go_simp;done)|(go_simp;rfl));(case hp=>exact(Reps.one (show Kd.M (Kd.int .i64) _ _ _ (rd l0 (ji21)) [.int .i64 (rd l0 (ji21))] from rfl) (Reps.one (show Kd.M (Kd.int .i64) _ _ _ (rd l1 (ji29)) [.int .i64 (rd l1 (ji29))] from rfl) (Reps.none _ _))))
 intro v973 w41 ho42 hb hg_ hnew_
 have HS0_:=(hb.cell (World.block_lt_of_cell? _ _ (hHeld.1))).trans (hHeld.1)
 have HS1_:=(hb.cell (World.block_lt_of_cell? _ _ (hHeld.2))).trans (hHeld.2)
 clear hg_ hnew_
 (first|rw[← zx.out] at ho42|(simp only[Int.reduceToNat] at ho42;rw[← zx.out] at ho42))
 replace za:=aM (Kd.V_elder' (pV za.out) (Kd.R_base ho42) hb)
 replace zb:=aM (Kd.V_elder' (pV zb.out) (Kd.R_base ho42) hb)
 replace zc:=aM (Kd.V_elder' (pV zc.out) (Kd.R_base ho42) hb)
 replace zd:=aM (Kd.V_elder' (pV zd.out) (Kd.R_base ho42) hb)
 have zl:=aM (Kd.R_lower (Kd.R_new' (Kd.R_newM (M:=fun k_=>(w.heap.size≤k_)) ho42 (below_size (qB HB)) (fun k_ h_=>h_)) (Kd.R_lt (pR zh.out))) (below_size (qB HB)))
 replace zh:=eR zh ho42 hb
 replace HB:=bS (qB HB) hb
 clear hb ho42
 obtain⟨z5,z6,zam⟩:=Kd.R_slice zl.out
 (first|subst zam|(injection zam with f1_ f2_ f3_;have f4_:=f1_.symm;have f5_:=f3_.symm;clear f1_ f2_ f3_;subst f4_;subst f5_))
 refine hK.out _ _ ⟨HS0_,HS1_⟩ (fun hHeld=>?_)
 clear hK K
 refine nM 76 ?_
 refine last_ (i:=12) (N:=some 77) (bm 14 8191) rfl rfl (one_of HT_.out (by kernel_rfl)) (by decide) (fun K hK=>?_)
 refine Kd.R_append_rows_step (Kd.int .i64) (w0:=w) w.heap.size (by rfl) (.tmp 65) (.tmp 76) 22 3 (.int .i64 0) 8 rfl Try.underlying22 info3 rfl (by decide) (by omega) z7 zp ze _ _ _ (fun k_=>(w.heap.size≤k_)∧some k_≠(.slice z5 ze.length z6:Value).ownBlock) (fun _=>False) rfl rfl ?aO ?aR (fun _ _ h=>h) (fun _ h=>h.elim) ?aF ?aB ?aS ?aL ?_
 (case aR=>exact sR zl)
 (case aB=>exact(qB HB))
 (case aF=>exact(fun k_ hk=>⟨(Nat.le_trans (below_size (qB HB)) hk),Kd.fresh' (Kd.R_lt (pR zl.out)) k_ hk⟩))
 (case aO=>exact(by(with_reducible repeat(first|apply rA|apply rN|apply rD));exact Kd.R_mono zh.out (fun _ hk=>⟨hk.1.1,hk.2⟩)))
 (case aS=>exact(below_size (qB HB)))
 (case aL=>have:=zaa.out;omega)
 intro v976 w43 ho hb hg hat
 rw[← zab.out] at ho
 replace za:=aM (Kd.V_afterv (ok:=(fun k_=>((P0_ k_∨P1_ k_)∨w.heap.size≤k_)∧some k_≠(.slice z5 ze.length z6:Value).ownBlock)) (by(with_reducible repeat(first|apply Kd.V_alloc|apply Kd.V_drewN|apply Kd.V_drew));exact Kd.V_mono za.out (fun _ hk=>⟨⟨hk.1.1,hk.2⟩,hk.1.2⟩)) hg hat)
 replace zb:=aM (Kd.V_afterv (ok:=(fun k_=>((P0_ k_∨P1_ k_)∨w.heap.size≤k_)∧some k_≠(.slice z5 ze.length z6:Value).ownBlock)) (by(with_reducible repeat(first|apply Kd.V_alloc|apply Kd.V_drewN|apply Kd.V_drew));exact Kd.V_mono zb.out (fun _ hk=>⟨⟨hk.1.1,hk.2⟩,hk.1.2⟩)) hg hat)
 replace zc:=aM (Kd.V_afterv (ok:=(fun k_=>((P0_ k_∨P1_ k_)∨w.heap.size≤k_)∧some k_≠(.slice z5 ze.length z6:Value).ownBlock)) (by(with_reducible repeat(first|apply Kd.V_alloc|apply Kd.V_drewN|apply Kd.V_drew));exact Kd.V_mono zc.out (fun _ hk=>⟨⟨hk.1.1,hk.2⟩,hk.1.2⟩)) hg hat)
 replace zd:=aM (Kd.V_afterv (ok:=(fun k_=>((P0_ k_∨P1_ k_)∨w.heap.size≤k_)∧some k_≠(.slice z5 ze.length z6:Value).ownBlock)) (by(with_reducible repeat(first|apply Kd.V_alloc|apply Kd.V_drewN|apply Kd.V_drew));exact Kd.V_mono zd.out (fun _ hk=>⟨⟨hk.1.1,hk.2⟩,hk.1.2⟩)) hg hat)
 replace zl:=aM (Kd.R_after (ok:=(fun k_=>(w.heap.size≤k_))) (by(with_reducible repeat(first|apply rA|apply rN|apply rD));exact Kd.R_mono zl.out (fun _ hk=>⟨hk.1.1,hk.2⟩)) hg hat)
 replace HB:=aM (hb)
 have zn:=aM (ho)
 clear zh
 clear ho hb hg hat
 refine hK.out _ _ ?_
 clear hK K
 refine nM 77 ?_
 refine pQ 13 13 14 16383 HT_ ?_
 refine dN HT_ ?_
 obtain⟨yav,yaw,yax⟩:=Kd.R_slice zn.out
 subst yax
 try go_wp2_with (first|((with_reducible refine gC 31 rfl ?_);refine gL 79 Try.func31 #[.slice yav zg.length yaw] ?_;(with_reducible refine(fcg.calls _ _ zg zf _ ?s1 ?s2 A33.out).mono ?_);(case s1=>exact sR zn);(case s2=>exact sL zn);rintro e w' ⟨rfl,⟨nd,rfl⟩⟩;refine⟨_,rfl,?_⟩))
 go_ret2
 exact⟨_,by first|rfl|(simp[errW_none,errW_some] <;> rfl)|(simp only[← hji14,← hji17,← hji21,← hji29];first|rfl|(simp[errW_none,errW_some] <;> rfl))|(simp[*,errW_none,errW_some] <;> rfl),by(with_reducible repeat(first|apply rA|apply rN|apply rD));exact Kd.R_mono zn.out (fun _ hk=>hk.1),qB HB⟩
def fbu.f (a0:Int):Option (Bool):=if a0 ≥ 33 then(some (decide (a0≤40)))else(some false)
theorem fbu.calls (a0:Int)(r:Bool)(w:World)(h:fbu.f a0=some r) :
  Calls Try.prog 13 #[.int .i64 a0] w fun e w'=>e=.returned (.bool r)∧Drawn0 w w':=by
 have H:(if a0 ≥ 33 then(some (decide (a0≤40)))else(some false))=some r:=h
 clear h
 by_cases c2:a0 ≥ 33
 ·rw[ip c2] at H
  have ya:decide (33≤a0)=true:=decide_eq_true c2
  clear c2
  obtain rfl:=Option.some.inj H
  go_enter Try.func13,Try.ntmps13
  go_wp2
  go_ret
  exact⟨pF,pW⟩
 rw[iN c2] at H
 have ya:decide (33≤a0)=false:=decide_eq_false c2
 clear c2
 obtain rfl:=Option.some.inj H
 go_enter Try.func13,Try.ntmps13
 go_wp2
 go_ret
 exact⟨pF,pW⟩
def fcn.f (l0:List Int):Option (List Int):=if l0.length<17592186044416 then some l0 else none
theorem fcn.calls (A0:Option Addr)(c0:Nat)(l0 r1:List Int)(w:World)(hr0:Kd.C (Kd.int .i64) w A0 l0.length l0)(hc0:l0.length≤c0)(h:fcn.f l0=some r1) :
    Calls Try.prog 42 #[.slice A0 l0.length c0] w fun e w'=>∃ v0_:Value,e=.returned v0_∧Kd.R (Kd.int .i64) 3 w' w.heap.size (fun _=>True) v0_ r1∧Below w.heap.size w w':=by
  unfold fcn.f at h
  split at h
  · rename_i hlen
    obtain rfl:=Option.some.inj h
    clear h
    have LM:=Aside0.mk hlen
    clear hlen
    have HB:=Aside0.mk (Below.refl w.heap.size w)
    cases A0 with
    | none =>
      have hz:l0.length=0:=by
        rcases Nat.eq_zero_or_pos l0.length with h0|h0
        · exact h0
        · obtain⟨ad,e,_⟩:=Kd.at_int hr0 0 (by omega) (by omega)
          cases e
      obtain rfl:l0=[]:=List.eq_nil_of_length_eq_zero hz
      clear hz hr0 hc0
      have hnil:=fun (W:World)=>Lib.run_eql_slice_nil (P:=Try.prog) W 22 3 none 0 c0 0 0 Try.underlying22
      go_enter Try.func42,Try.ntmps42
      go_wp2
      go_ret
      exact⟨_,rfl,Kd.R_nil _ _ _ _ _,HB.out⟩
    | some ad =>
      have hnil:=fun (W:World)=>Lib.run_eql_slice_nil (P:=Try.prog) W 22 3 (some ad) l0.length c0 0 0 Try.underlying22
      have HR1:=Aside0.mk hr0
      clear hr0 hc0
      obtain⟨y323,hy323⟩:∃ y_:List Int,y_=(([]:List Int)):=⟨_,rfl⟩
      have LMc5:Aside0 (y323.length+l0.length<17592186044416):=⟨by rw[hy323];simpa using LM.out⟩
      have Ny323:=Aside0.mk hy323
      clear hy323
      obtain⟨y326,hy326⟩:∃ y_:List Int,y_=(y323++l0):=⟨_,rfl⟩
      have hfin:Aside0 (y326=l0):=⟨by rw[hy326,Ny323.out];rfl⟩
      have Ny326:=Aside0.mk hy326
      clear hy326
      go_enter Try.func42,Try.ntmps42
      go_wp2_with (first|((with_reducible refine gD 5 rfl ?_);refine Kd.R_lit (Kd.int .i64) _ 3 ?hg (N:=5) ?hd (xs:=([]:List Int)) (inner:=[]) (ok:=fun _=>True) (okp:=fun _=>True) ?hr ?hp (fun _ hk=>hk) trivial (Below.refl _ _) (Nat.le_refl _) (by simp) ?_;(case hd=>rfl);(case hg=>rfl);(case hr=>first|(go_simp;done)|(go_simp;rfl));(case hp=>exact(Reps.none _ _));intro v324 w6 ho7 hb hg_ hnew_;clear hg_ hnew_;(first|rw[← Ny323.out] at ho7|(simp only[Int.reduceToNat] at ho7;rw[← Ny323.out] at ho7));have n0_:=Aside0.mk (Kd.R_lower ho7 (below_size (by repeat(first|(with_reducible first|exact HB.out|apply below_alloc|apply pw_below_drewN|apply below_drew1)|exact HB.out))));have n1_:=Aside0.mk (below_step (by repeat(first|(with_reducible first|exact HB.out|apply below_alloc|apply pw_below_drewN|apply below_drew1)|exact HB.out)) hb);clear HB;have HO325:=n0_;have HB:=n1_;clear n0_ n1_;clear hb ho7)|((with_reducible refine gate_builtin (b:=.append) (xs:=#[.tmp 5,.tmp 6]) rfl ?_);at_builtin;refine Kd.R_append_rows (Kd.int .i64) (w0:=w) w.heap.size rfl (.tmp 5) (.tmp 6) 22 3 (.int .i64 0) 8 rfl Try.underlying22 info3 rfl (by decide) (by omega) v324 y323 l0 _ _ _ (fun _=>True) (fun _=>False) rfl rfl ?aO ?aR (fun _ _ h=>h) (fun _ h=>h.elim) ?aF ?aB ?aS ?aL ?_;(case aR=>repeat(first|exact(Kd.C_below HR1.out HB.out)|(with_reducible refine Kd.C_alloc ?_ _)|(with_reducible refine Kd.C_drewN ?_ _)|(with_reducible refine Kd.C_drew ?_)));(case aB=>exact(by repeat(first|(with_reducible first|exact HB.out|apply below_alloc|apply pw_below_drewN|apply below_drew1)|exact HB.out)));(case aF=>exact(fun _ _=>trivial));(case aO=>exact(by(with_reducible repeat(first|apply Kd.R_alloc|apply Kd.R_drewN|apply Kd.R_drew));exact HO325.out));(case aS=>exact(below_size (by repeat(first|(with_reducible first|exact HB.out|apply below_alloc|apply pw_below_drewN|apply below_drew1)|exact HB.out))));(case aL=>have:=LMc5.out;omega);intro v327 w8 ho hb hg hat;rw[← Ny326.out] at ho;have n0_:=Aside0.mk (hb);have n1_:=Aside0.mk (ho);clear HB;clear HO325;have HB:=n0_;have HO328:=n1_;clear n0_ n1_;clear ho hb hg hat))
      go_ret
      exact⟨_,rfl,by rw[← hfin.out];exact HO328.out,HB.out⟩
  · cases h
def fcm.j0:Nat→List Int→Int→Int→Bool→Option (List Int×Int)
 | 0,_,_,_,_=>none
 | k+1,x0,x1,x2,x23=>if x23=true then(some (([]:List Int),10))else((fcn.f x0).bind fun zb=>(if 0≤x1 then(if x1<(zb.length:Int)then((some (zb.set (x1:Int).toNat x2:List Int)).bind fun zc=>((fcg.f zc).bind fun zd=>(if zd=0 then(some (zc,0))else(some (([]:List Int),zd)))))else(none))else(none)))
def fcm.f (k:Nat) (l0:List Int)(a1 a2:Int):Option (List Int×Int):=(fcg.f l0).bind fun ze=>(if ze=0 then(if a1<0 then(fcm.j0 k l0 a1 a2 true)else(fcm.j0 k l0 a1 a2 (decide (a1 ≥ (l0.length:Int)))))else(some (([]:List Int),ze)))
theorem fcm.calls (k:Nat)(A0:Option Addr)(c0:Nat)(l0:List Int)(a1 a2:Int)(r1:List Int)(r2:Int)(w:World)(hr0:Kd.C (Kd.int .i64) w A0 l0.length l0)(hc0:l0.length≤c0)(h:fcm.f k l0 a1 a2=some (r1,r2)) :
  Calls Try.prog 61 #[.slice A0 l0.length c0,.int .i64 a1,.int .i64 a2] w fun e w'=>∃ v0_:Value,e=.returned (.tuple #[v0_,.int .i64 r2])∧Kd.R (Kd.int .i64) 3 w' w.heap.size (fun _=>True) v0_ r1∧Below w.heap.size w w':=by
 have HR0:=aM hr0
 have HC0:=aM hc0
 clear hr0 hc0
 have HB:=aM (Below.refl w.heap.size w)
 have H:((fcg.f l0).bind fun ze=>(if ze=0 then(if a1<0 then(fcm.j0 k l0 a1 a2 true)else(fcm.j0 k l0 a1 a2 (decide (a1 ≥ (l0.length:Int)))))else(some (([]:List Int),ze))))=some (r1,r2):=h
 clear h
 replace H:=oB H
 obtain⟨ze,A40,H⟩:=H
 try dsimp only at H
 have A4:=aM A40
 clear A40
 by_cases c5:ze=0
 rotate_left
 ·rw[iN c5] at H
  have zl:=bF c5
  have zm:=nT c5
  replace H:=oi2 H
  obtain⟨rfl,rfl⟩:=H
  go_enter Try.func61,Try.ntmps61
  go_wp2_with (first|((with_reducible refine gC 31 rfl ?_);refine gL 12 Try.func31 #[.slice A0 l0.length c0] ?_;(with_reducible refine(fcg.calls _ _ l0 ze _ ?s1 HC0.out A4.out).mono ?_);(case s1=>exact pC HR0.out);rintro e w' ⟨rfl,⟨nd,rfl⟩⟩;refine⟨_,rfl,?_⟩))
  go_ret2
  exact⟨_,pE,pN,qB HB⟩
 rw[ip c5] at H
 have zl:=bT c5
 have zm:=nF c5
 clear c5
 have HC6:=aM H
 clear H
 go_enter Try.func61,Try.ntmps61
 go_upto_region 4 with(first|((with_reducible refine gC 31 rfl ?_);refine gL 12 Try.func31 #[.slice A0 l0.length c0] ?_;(with_reducible refine(fcg.calls _ _ l0 ze _ ?s1 HC0.out A4.out).mono ?_);(case s1=>exact pC HR0.out);rintro e w' ⟨rfl,⟨nd,rfl⟩⟩;refine⟨_,rfl,?_⟩))
 (try simp only[Act.put,sP])
 go_cut [23] (fun v23 wc=>∃ (kq:Nat) (yb:Bool),v23=.bool yb∧Aside0 (fcm.j0 kq l0 a1 a2 yb=some (r1,r2))∧Aside0 (kq≤k)∧Aside0 (Below w.heap.size w wc))
 case first =>
  have H:=HC6.out
  clear HC6
  by_cases c7:a1<0
  ·rw[ip c7] at H
   have zf:=dT c7
   clear c7
   (first|rw[zf]|(simp only[i64_w,i32_w];rw[zf])|skip)
   have H':=aM H
   clear H
   go_wp2
   go_meet
   case rel=>exact⟨_,(true),(pF),H',⟨pO⟩,⟨qB HB⟩⟩
  rw[iN c7] at H
  have zf:=dF c7
  clear c7
  (first|rw[zf]|(simp only[i64_w,i32_w];rw[zf])|skip)
  have H':=aM H
  clear H
  go_wp2
  go_meet
  case rel=>exact⟨_,(decide (a1 ≥ (l0.length:Int))),(pF),H',⟨pO⟩,⟨qB HB⟩⟩
 clear HC6
 try clear zl
 try clear zm
 obtain⟨kq,yb,rfl,HA,HJ5,HB⟩:=hcut
 cases kq with
 | zero=>exact absurd HA.out (by simp[fcm.j0])
 | succ kj5=>?_
 have H:=HA.out
 clear HA
 simp only[fcm.j0] at H
 by_cases c8:yb=true
 ·subst c8
  rw[ip rfl] at H
  replace H:=oi2 H
  obtain⟨rfl,rfl⟩:=H
  go_wp2
  go_ret2
  exact⟨_,pE,pN,qB HB⟩
 replace c8:=Bool.eq_false_iff.mpr c8
 subst c8
 rw[iN fT] at H
 replace H:=oB H
 obtain⟨zb,A90,H⟩:=H
 try dsimp only at H
 have A9:=aM A90
 clear A90
 by_cases c10:0≤a1
 rotate_left
 ·rw[iN c10] at H
  cases H
 rw[ip c10] at H
 have c10b0:=dT c10
 clear c10
 by_cases c11:a1<(zb.length:Int)
 rotate_left
 ·rw[iN c11] at H
  cases H
 rw[ip c11] at H
 have c11b0:=dT c11
 clear c11
 obtain⟨zc,zg⟩:∃ y_:List Int,y_=(zb.set (a1:Int).toNat a2):=⟨_,rfl⟩
 replace H:((fcg.f zc).bind fun zd=>(if zd=0 then(some (zc,0))else(some (([]:List Int),zd))))=some (r1,r2):=pH zg H
 have zk:=aM zg
 clear zg
 replace H:=oB H
 obtain⟨zd,zn,H⟩:=H
 try dsimp only at H
 have A13:=aM zn
 clear zn
 by_cases c14:zd=0
 rotate_left
 ·rw[iN c14] at H
  have yd:=bF c14
  have ye:=nT c14
  replace H:=oi2 H
  obtain⟨rfl,rfl⟩:=H
  go_wp2_with (first|((with_reducible refine gC 42 rfl ?_);refine gL 25 Try.func42 #[.slice A0 l0.length c0] ?_;(with_reducible refine(fcn.calls _ _ l0 zb _ ?s1 HC0.out A9.out).mono ?_);(case s1=>exact sC HR0 HB);rintro e w18 ⟨v292,rfl,ho0,hb⟩;refine⟨_,rfl,?_⟩;have za:=aM (Kd.R_lower ho0 (below_size (qB HB)));replace HB:=bS (qB HB) hb;have yf:0≤(a1:Int):=oD;have yg:(a1:Int)<((zb.length:Int):Int):=oD;obtain⟨ya,zh,zi,zj,gl12,cl12,HG12⟩:=Kd.R_form za.out (by omega);(first|cases zi|(injection zi with ea_ en_ ec_;(first|subst ea_|(injection ea_ with ea_;subst ea_));subst ec_;clear en_));have GB12:=aM zj;have GG12:=aM HG12;clear zj gl12 HG12;obtain⟨yc,hf12_0⟩:=Kd.R_celln 0 za.out (a1:Int) yf yg;obtain⟨hy19_,hz19_⟩:=Kd.R_celln 0 za.out (a1:Int) (of_decide_eq_true pD) (of_decide_eq_true pD);have HP19:=Kd.R_putg za.out (a1:Int) a2)|((with_reducible refine gate_store (t:=3) (p:=29) rfl ?_);refine store_event (t:=3) (p:=29) (v:=?vo_w20) (w1:=(w18.setCell ⟨ya,(a1:Int).toNat,none⟩ (.int .i64 a2))) ?hg ?ho ?hn ?hr ?_;(case ho=>rfl);(case hg=>rfl);(case hn=>rfl);(case hr=>first|(go_simp;done)|(go_simp;rfl));intro w20 hw;have hg:w18.grownBy w20 (some ya):=(by rw[hw];exact HP19.2);have hp_:Kd.R (Kd.int .i64) 3 w20 w.heap.size (fun _=>True) (.slice (some ⟨ya,0,none⟩) zb.length zh) zc:=(by rw[hw,zk.out];exact HP19.1);clear HP19;replace za:=aM (hp_);replace HB:=aM ((by rw[hw];exact below_set (HB.out) GB12.out:Below w.heap.size w w20));clear hg hw hp_)|((with_reducible refine gC 31 rfl ?_);refine goesL_ (some 31) rfl rfl Try.func31 (by kernel_rfl) rfl #[.slice (some ⟨ya,0,none⟩) zc.length zh] rfl (by(try simp only[List.map_toArray,List.map_cons,List.map_nil]);first|done|(rw[show zc.length=zb.length from (Kd.R_reads' za.out).1.symm] <;> rfl)|rfl|(simp only[List.length_drop,List.length_take];rfl)) ?_;(with_reducible refine(fcg.calls _ _ zc zd _ ?s1 ?s2 A13.out).mono ?_);(case s1=>exact sR za);(case s2=>rw[show zc.length=zb.length from (Kd.R_reads' za.out).1.symm];exact sL za);rintro e w' ⟨rfl,⟨nd,rfl⟩⟩;refine⟨_,rfl,?_⟩))
  go_ret2
  exact⟨_,pE,pN,qB HB⟩
 rw[ip c14] at H
 have yd:=bT c14
 have ye:=nF c14
 clear c14
 replace H:=oi2 H
 obtain⟨rfl,rfl⟩:=H
 go_wp2_with (first|((with_reducible refine gC 42 rfl ?_);refine gL 25 Try.func42 #[.slice A0 l0.length c0] ?_;(with_reducible refine(fcn.calls _ _ l0 zb _ ?s1 HC0.out A9.out).mono ?_);(case s1=>exact sC HR0 HB);rintro e w15 ⟨v292,rfl,ho0,hb⟩;refine⟨_,rfl,?_⟩;have za:=aM (Kd.R_lower ho0 (below_size (qB HB)));replace HB:=bS (qB HB) hb;have yf:0≤(a1:Int):=oD;have yg:(a1:Int)<((zb.length:Int):Int):=oD;obtain⟨ya,zh,zi,zj,gl12,cl12,HG12⟩:=Kd.R_form za.out (by omega);(first|cases zi|(injection zi with ea_ en_ ec_;(first|subst ea_|(injection ea_ with ea_;subst ea_));subst ec_;clear en_));have GB12:=aM zj;have GG12:=aM HG12;clear zj gl12 HG12;obtain⟨yc,hf12_0⟩:=Kd.R_celln 0 za.out (a1:Int) yf yg;obtain⟨hy16_,hz16_⟩:=Kd.R_celln 0 za.out (a1:Int) (of_decide_eq_true pD) (of_decide_eq_true pD);have HP16:=Kd.R_putg za.out (a1:Int) a2)|((with_reducible refine gate_store (t:=3) (p:=29) rfl ?_);refine store_event (t:=3) (p:=29) (v:=?vo_w17) (w1:=(w15.setCell ⟨ya,(a1:Int).toNat,none⟩ (.int .i64 a2))) ?hg ?ho ?hn ?hr ?_;(case ho=>rfl);(case hg=>rfl);(case hn=>rfl);(case hr=>first|(go_simp;done)|(go_simp;rfl));intro w17 hw;have hg:w15.grownBy w17 (some ya):=(by rw[hw];exact HP16.2);have hp_:Kd.R (Kd.int .i64) 3 w17 w.heap.size (fun _=>True) (.slice (some ⟨ya,0,none⟩) zb.length zh) zc:=(by rw[hw,zk.out];exact HP16.1);clear HP16;replace za:=aM (hp_);replace HB:=aM ((by rw[hw];exact below_set (HB.out) GB12.out:Below w.heap.size w w17));clear hg hw hp_)|((with_reducible refine gC 31 rfl ?_);refine goesL_ (some 31) rfl rfl Try.func31 (by kernel_rfl) rfl #[.slice (some ⟨ya,0,none⟩) zc.length zh] rfl (by(try simp only[List.map_toArray,List.map_cons,List.map_nil]);first|done|(rw[show zc.length=zb.length from (Kd.R_reads' za.out).1.symm] <;> rfl)|rfl|(simp only[List.length_drop,List.length_take];rfl)) ?_;(with_reducible refine(fcg.calls _ _ zc zd _ ?s1 ?s2 A13.out).mono ?_);(case s1=>exact sR za);(case s2=>rw[show zc.length=zb.length from (Kd.R_reads' za.out).1.symm];exact sL za);rintro e w' ⟨rfl,⟨nd,rfl⟩⟩;refine⟨_,rfl,?_⟩))
 go_ret2
 exact⟨_,pE,pR za.out,qB HB⟩
mutual
def fbw.j0:Nat→List Int→List Int→Int→Bool→Option (List Int×Int)
 | 0,_,_,_,_=>none
 | k+1,x0,x1,x2,x17=>if x17=true then(some (([]:List Int),10))else(if(x0.length:Int)=(x1.length:Int)then(fbw.l0 k x0 x1 x2 x0 (x0.length:Int) 0)else(some (([]:List Int),8)))
def fbw.l0:Nat→List Int→List Int→Int→List Int→Int→Int→Option (List Int×Int)
 | 0,_,_,_,_,_,_=>none
 | k+1,x0,x1,x2,x23,x24,x25=>if x25<x24 then(if 0≤x25 then(if x25<(x23.length:Int)then(if x25=x2 then(fbw.l0 k x0 x1 x2 x23 x24 (wrap64 (x25+1)))else(if x25<(x1.length:Int)then(if(rd x23 x25)=(rd x1 x25)then(fbw.l0 k x0 x1 x2 x23 x24 (wrap64 (x25+1)))else(some (([]:List Int),8)))else(none)))else(none))else(none))else(if 0≤x2 then(if x2<(x0.length:Int)then(if x2<(x1.length:Int)then((fcm.f k x0 x2 (wrap64 ((rd x0 x2)+(rd x1 x2)))).bind fun bt314=>(some (bt314.1,bt314.2)))else(none))else(none))else(none))
end
def fbw.f (k:Nat) (l0 l1:List Int)(a2:Int):Option (List Int×Int):=if a2<0 then(fbw.j0 k l0 l1 a2 true)else(fbw.j0 k l0 l1 a2 (decide (a2 ≥ (l0.length:Int))))
def fbw.T11:TT:=(true,[([],[]),([],[]),([],[]),([],[]),([2,3],[2,3]),([4],[4]),([],[]),([],[]),([6,7],[6,7]),([8],[8]),([5,9],[5,9]),([0,1,10],[0,1,10]),([11],[11]),([11],[11]),([12,11,0,1,2,3,4,5,6,7,8,9,10,11,12,13],[12]),([13,14,0,1,2,3,4,5,6,7,8,9,10,11,12,13,14],[13])])
def fbw.B11:List Nat:=[0,0,0,0,12,28,0,0,192,448,1020,2047,4095,4095,16383,32767]
theorem fbw.tab11:rtab .any (opsOf Try.f34 11)=fbw.T11:=by kernel_rfl
theorem fbw.bits11:waitsOk fbw.T11.2 fbw.B11=true:=by kernel_rfl
theorem fbw.calls (k:Nat)(A0:Option Addr)(c0:Nat)(l0:List Int)(A1:Option Addr)(c1:Nat)(l1:List Int)(a2:Int)(r1:List Int)(r2:Int)(w:World)(hr0:Kd.C (Kd.int .i64) w A0 l0.length l0)(hc0:l0.length≤c0)(hr1:Kd.C (Kd.int .i64) w A1 l1.length l1)(hc1:l1.length≤c1)(h:fbw.f k l0 l1 a2=some (r1,r2)) :
  Calls Try.prog 34 #[.slice A0 l0.length c0,.slice A1 l1.length c1,.int .i64 a2] w fun e w'=>∃ v0_:Value,e=.returned (.tuple #[v0_,.int .i64 r2])∧Kd.R (Kd.int .i64) 3 w' w.heap.size (fun _=>True) v0_ r1∧Below w.heap.size w w':=by
 have HR0:=aM hr0
 have HC0:=aM hc0
 clear hr0 hc0
 have HR1:=aM hr1
 have HC1:=aM hc1
 clear hr1 hc1
 have HB:=aM (Below.refl w.heap.size w)
 have H:(if a2<0 then(fbw.j0 k l0 l1 a2 true)else(fbw.j0 k l0 l1 a2 (decide (a2 ≥ (l0.length:Int)))))=some (r1,r2):=h
 clear h
 have HC4:=aM H
 clear H
 go_enter Try.func34,Try.ntmps34
 go_upto_region 1 with(fail)
 go_cut [17] (fun v17 wc=>∃ (kq:Nat) (yf:Bool),v17=.bool yf∧Aside0 (fbw.j0 kq l0 l1 a2 yf=some (r1,r2))∧Aside0 (kq≤k)∧Aside0 (Below w.heap.size w wc))
 case first =>
  have H:=HC4.out
  clear HC4
  by_cases c5:a2<0
  ·rw[ip c5] at H
   have za:=dT c5
   clear c5
   (first|rw[za]|(simp only[i64_w,i32_w];rw[za])|skip)
   have H':=aM H
   clear H
   go_wp2
   go_meet
   case rel=>exact⟨_,(true),(pF),H',⟨pO⟩,⟨qB HB⟩⟩
  rw[iN c5] at H
  have za:=dF c5
  clear c5
  (first|rw[za]|(simp only[i64_w,i32_w];rw[za])|skip)
  have H':=aM H
  clear H
  go_wp2
  go_meet
  case rel=>exact⟨_,(decide (a2 ≥ (l0.length:Int))),(pF),H',⟨pO⟩,⟨qB HB⟩⟩
 clear HC4
 try clear c1
 obtain⟨kq,yf,rfl,HA,HJ3,HB⟩:=hcut
 cases kq with
 | zero=>exact absurd HA.out (by simp[fbw.j0])
 | succ kj3=>?_
 have H:=HA.out
 clear HA
 simp only[fbw.j0] at H
 by_cases c6:yf=true
 ·subst c6
  rw[ip rfl] at H
  replace H:=oi2 H
  obtain⟨rfl,rfl⟩:=H
  go_wp2
  go_ret2
  exact⟨_,pE,pN,qB HB⟩
 replace c6:=Bool.eq_false_iff.mpr c6
 subst c6
 rw[iN fT] at H
 by_cases c7:(l0.length:Int)=(l1.length:Int)
 rotate_left
 ·rw[iN c7] at H
  have zb:=bF c7
  have zc:=nT c7
  have zd:(l0.length==l1.length)=false:=by first|simpa using c7|(simp at c7 ⊢;omega)
  replace H:=oi2 H
  obtain⟨rfl,rfl⟩:=H
  go_wp2
  go_ret2
  exact⟨_,pE,pN,qB HB⟩
 rw[ip c7] at H
 have zb:=bT c7
 have zc:=nF c7
 have zd:(l0.length==l1.length)=true:=by first|simpa using c7|(simp at c7 ⊢;omega)
 clear c7
 have H':=aM H
 clear H
 go_wp2
 go_loopg [25] kj3 (fun kq v25 w'=>∃ (ya:Int),v25=.int .i64 ya∧Aside0 (fbw.l0 kq l0 l1 a2 l0 (l0.length:Int) ya=some (r1,r2))∧Aside0 (kq≤kj3)∧Aside0 (Below w.heap.size w w'))
 case atStart=>exact⟨(0),(pF),H',⟨Nat.le_refl _⟩,⟨qB HB⟩⟩
 clear H'
 try clear c6
 try clear zb
 try clear zc
 try clear zd
 obtain⟨ya,rfl,HA,HK2,HB⟩:=hrel
 cases gk with
 | zero=>exact absurd HA.out (by simp[fbw.l0])
 | succ k2=>?_
 have H:=HA.out
 clear HA
 simp only[fbw.l0] at H
 by_cases c8:ya<(l0.length:Int)
 ·rw[ip c8] at H
  have ys:=dT c8
  clear c8
  by_cases c9:0≤ya
  rotate_left
  ·rw[iN c9] at H
   cases H
  rw[ip c9] at H
  have c9b0:=dT c9
  clear c9
  by_cases c10:ya<(l0.length:Int)
  rotate_left
  ·rw[iN c10] at H
   cases H
  rw[ip c10] at H
  have c10b0:=dT c10
  clear c10
  by_cases c11:ya=a2
  ·rw[ip c11] at H
   have yk:=bT c11
   have yl:=nF c11
   clear c11
   have H':=aM H
   clear H
   obtain⟨yi,⟨⟩,yb,ym,yn⟩:=zI HR0.out ya
   replace yb:=zW HB yb
   go_wp2
   go_roundg k2
   case measure=>have:=HJ3.out;have:=HK2.out;omega
   case rel=>exact⟨(wrap64 (ya+1)),(pF),H',⟨pO2 HJ3 HK2⟩,⟨qB HB⟩⟩
  rw[iN c11] at H
  have yk:=bF c11
  have yl:=nT c11
  by_cases c12:ya<(l1.length:Int)
  rotate_left
  ·rw[iN c12] at H
   cases H
  rw[ip c12] at H
  have c12b0:=dT c12
  clear c12
  by_cases c13:(rd l0 ya)=(rd l1 ya)
  rotate_left
  ·rw[iN c13] at H
   have yo:=bF c13
   have yp:=nT c13
   replace H:=oi2 H
   obtain⟨rfl,rfl⟩:=H
   obtain⟨yi,⟨⟩,yb,ym,yn⟩:=zI HR0.out ya
   replace yb:=zW HB yb
   obtain⟨yq,⟨⟩,yc,yt,yu⟩:=zI HR1.out ya
   replace yc:=zW HB yc
   go_wp2
   go_ret2
   exact⟨_,pE,pN,qB HB⟩
  rw[ip c13] at H
  have yo:=bT c13
  have yp:=nF c13
  clear c13
  have H':=aM H
  clear H
  obtain⟨yi,⟨⟩,yb,ym,yn⟩:=zI HR0.out ya
  replace yb:=zW HB yb
  obtain⟨yq,⟨⟩,yc,yt,yu⟩:=zI HR1.out ya
  replace yc:=zW HB yc
  go_wp2
  go_roundg k2
  case measure=>have:=HJ3.out;have:=HK2.out;omega
  case rel=>exact⟨(wrap64 (ya+1)),(pF),H',⟨pO2 HJ3 HK2⟩,⟨qB HB⟩⟩
 rw[iN c8] at H
 have ys:=dF c8
 clear c8
 by_cases c14:0≤a2
 rotate_left
 ·rw[iN c14] at H
  cases H
 rw[ip c14] at H
 have c14b0:=dT c14
 clear c14
 by_cases c15:a2<(l0.length:Int)
 rotate_left
 ·rw[iN c15] at H
  cases H
 rw[ip c15] at H
 have c15b0:=dT c15
 clear c15
 by_cases c16:a2<(l1.length:Int)
 rotate_left
 ·rw[iN c16] at H
  cases H
 rw[ip c16] at H
 have c16b0:=dT c16
 clear c16
 replace H:=oB H
 obtain⟨⟨t314,t315⟩,ze,H⟩:=H
 try dsimp only at H
 have A17:=aM ze
 clear ze
 replace H:=oi2 H
 obtain⟨rfl,rfl⟩:=H
 try go_wp2
 replace HB:=aM (below_drew1 HB.out)
 obtain⟨yj,⟨⟩,yd,p312,q312⟩:=zI HR0.out a2
 have yg:=zW HB yd
 obtain⟨yr,⟨⟩,ye,p313,q313⟩:=zI HR1.out a2
 have yh:=zW HB ye
 refine sT 16 [] (fun w'=>w'.cell? (yj.add (a2).toNat)=some (.int .i64 (rd l0 a2))∧w'.cell? (yr.add (a2).toNat)=some (.int .i64 (rd l1 a2))) fbw.tab11 fbw.bits11 ⟨(zW HB yd),(zW HB ye)⟩ (fun hHeld HT_ HW_=>?_)
 generalize wr.drew=w18 at HB yg yh hHeld ⊢
 refine pQ 0 42 16 1 HT_ ?_
 refine pQ 1 43 16 3 HT_ ?_
 refine pQ 2 44 16 7 HT_ ?_
 refine pQ 3 45 16 15 HT_ ?_
 refine pQ 4 46 16 31 HT_ ?_
 refine pQ 6 48 16 95 HT_ ?_
 refine pQ 7 49 16 223 HT_ ?_
 refine pQ 8 50 16 479 HT_ ?_
 refine pU2 5 47 16 511 HT_ HW_ hHeld ?_
 refine pU2 9 51 16 1023 HT_ HW_ hHeld ?_
 refine pQ 10 52 16 2047 HT_ ?_
 refine oN 11 53 16 4095 HT_ (fun K hK=>?_)
 refine gS Try.func61 #[.slice (some yj) l0.length c0,.int .i64 a2,.int .i64 (wrap64 ((rd l0 a2)+(rd l1 a2)))] ?_
 with_reducible refine(fcm.calls k2 _ _ l0 a2 (wrap64 ((rd l0 a2)+(rd l1 a2))) t314 t315 _ ?s1 ?s2 A17.out).mono ?_
 (case s1=>exact sC HR0 HB)
 (case s2=>exact HC0.out)
 rintro e w19 ⟨v316,rfl,ho0,hb⟩
 refine⟨_,rfl,?_⟩
 have HO317:=aM (Kd.R_lower ho0 (below_size (qB HB)))
 replace HB:=bS (qB HB) hb
 refine hK.out _ _ ⟨(zW HB yd),(zW HB ye)⟩ (fun hHeld=>?_)
 clear hK K
 refine nM 53 ?_
 refine pQ 12 54 16 8191 HT_ ?_
 refine pQ 13 55 16 16383 HT_ ?_
 refine pQ 14 6 16 32767 HT_ ?_
 refine pQ 15 7 16 65535 HT_ ?_
 refine dN HT_ ?_
 try go_wp2
 go_ret2
 exact⟨_,pE,pR HO317.out,qB HB⟩
def fbx.l0:Nat→List Int→List Int→Int→Int→Int→Int→Int→Int→Int→Int→Int→Int→Bool→List Int→Option (List Int×Int)
 | 0,_,_,_,_,_,_,_,_,_,_,_,_,_,_=>none
 | k+1,x6,x34,x35,x36,ys,zam,yt,yu,yv,yw,yx,yy,yz,y0=>if x36<x35 then(if 0≤x36 then(if x36<(x34.length:Int)then(if(rd x34 x36)<0 then(some (([]:List Int),11))else(if(rd x34 x36) ≥ zam then(some (([]:List Int),11))else(fbx.l0 k x6 x34 x35 (wrap64 (x36+1)) ys zam yt yu yv yw yx yy yz y0)))else(none))else(none))else(some (x6,0))
def fbx.f (k:Nat) (l0:List Int)(yb yd yg yh yi yj yk yl:Int)(ym:Bool)(yc:List Int):Option (List Int×Int):=(fcm.f k l0 yb yd).bind fun bt304=>(if bt304.2=0 then(if 0≤yb then(if yb<(l0.length:Int)then(if(yc.length:Int)=(rd l0 yb)then(fbx.l0 k bt304.1 yc (yc.length:Int) 0 yb yd yg yh yi yj yk yl ym yc)else(some (([]:List Int),8)))else(none))else(none))else(some (([]:List Int),bt304.2)))
theorem fbx.calls (k:Nat)(A0:Option Addr)(c0:Nat)(l0:List Int)(yb yd yg yh yi yj yk yl:Int)(ym:Bool)(yn:Option Addr)(yo:Nat)(yc r1:List Int)(r2:Int)(w:World)(hr0:Kd.C (Kd.int .i64) w A0 l0.length l0)(hc0:l0.length≤c0)(y1:Kd.C (Kd.int .i64) w yn yc.length yc)(y2:yc.length≤yo)(h:fbx.f k l0 yb yd yg yh yi yj yk yl ym yc=some (r1,r2)) :
  Calls Try.prog 33 #[.slice A0 l0.length c0,.agg #[.int .i64 yb,.int .i64 yd,.int .i64 yg,.int .i64 yh,.int .i64 yi,.int .i64 yj,.int .i64 yk,.int .i64 yl,.bool ym,.slice yn yc.length yo]] w fun e w'=>∃ v0_:Value,e=.returned (.tuple #[v0_,.int .i64 r2])∧Kd.R (Kd.int .i64) 3 w' w.heap.size (fun _=>True) v0_ r1∧Below w.heap.size w w':=by
 have hu24:=Try.underlying24
 have HR0:=aM hr0
 have HC0:=aM hc0
 clear hr0 hc0
 have zcb:=aM y1
 have HC1_9:=aM y2
 clear y1 y2
 have HB:=aM (Below.refl w.heap.size w)
 have H:((fcm.f k l0 yb yd).bind fun bt304=>(if bt304.2=0 then(if 0≤yb then(if yb<(l0.length:Int)then(if(yc.length:Int)=(rd l0 yb)then(fbx.l0 k bt304.1 yc (yc.length:Int) 0 yb yd yg yh yi yj yk yl ym yc)else(some (([]:List Int),8)))else(none))else(none))else(some (([]:List Int),bt304.2))))=some (r1,r2):=h
 clear h
 replace H:=oB H
 obtain⟨⟨zg,zd⟩,A30,H⟩:=H
 try dsimp only at H
 have A3:=aM A30
 clear A30
 by_cases c4:zd=0
 rotate_left
 ·rw[iN c4] at H
  have zcc:=bF c4
  have zcd:=nT c4
  replace H:=oi2 H
  obtain⟨rfl,rfl⟩:=H
  go_enter Try.func33,Try.ntmps33
  go_wp2_with (first|((with_reducible refine gD 3 rfl ?_);refine bX 3 24 (aT yb yd yg yh yi yj yk yl ym yn yc.length yo) ?_;intro ze hg w23 hbox hb;have za:=aM (hbox);have zc:=gE (w:=w) hg (qB HB);have zb:=zc;replace HB:=bS (qB HB) hb;clear hb hbox hg;obtain⟨zan,zao,zap,zaq,zar,zas,zat,zau,zav,zaw,zax,zay,zaz,za0,za1,za2,za3,za4,za5,za6⟩:=blk10 za.out)|(go_at_call 61;(with_reducible refine(fcm.calls k _ _ l0 yb yd zg zd _ ?s1 HC0.out A3.out).mono ?_);(case s1=>exact sC HR0 HB);rintro e w25 ⟨zh,rfl,ho0,hb⟩;have zf:=aM (Kd.R_lower ho0 (below_size (qB1 HB zb)));replace za:=bK za hb;replace HB:=bS (qB1 HB zb) hb))
  repeat(go_quiet (first|((with_reducible refine gD 3 rfl ?_);refine bX 3 24 (aT yb yd yg yh yi yj yk yl ym yn yc.length yo) ?_;intro ze hg w23 hbox hb;have za:=aM (hbox);have zc:=gE (w:=w) hg (qB HB);have zb:=zc;replace HB:=bS (qB HB) hb;clear hb hbox hg;obtain⟨zan,zao,zap,zaq,zar,zas,zat,zau,zav,zaw,zax,zay,zaz,za0,za1,za2,za3,za4,za5,za6⟩:=blk10 za.out)|(go_at_call 61;(with_reducible refine(fcm.calls k _ _ l0 yb yd zg zd _ ?s1 HC0.out A3.out).mono ?_);(case s1=>exact sC HR0 HB);rintro e w25 ⟨zh,rfl,ho0,hb⟩;have zf:=aM (Kd.R_lower ho0 (below_size (qB1 HB zb)));replace za:=bK za hb;replace HB:=bS (qB1 HB zb) hb));try go_wp2_with (first|((with_reducible refine gD 3 rfl ?_);refine bX 3 24 (aT yb yd yg yh yi yj yk yl ym yn yc.length yo) ?_;intro ze hg w23 hbox hb;have za:=aM (hbox);have zc:=gE (w:=w) hg (qB HB);have zb:=zc;replace HB:=bS (qB HB) hb;clear hb hbox hg;obtain⟨zan,zao,zap,zaq,zar,zas,zat,zau,zav,zaw,zax,zay,zaz,za0,za1,za2,za3,za4,za5,za6⟩:=blk10 za.out)|(go_at_call 61;(with_reducible refine(fcm.calls k _ _ l0 yb yd zg zd _ ?s1 HC0.out A3.out).mono ?_);(case s1=>exact sC HR0 HB);rintro e w25 ⟨zh,rfl,ho0,hb⟩;have zf:=aM (Kd.R_lower ho0 (below_size (qB1 HB zb)));replace za:=bK za hb;replace HB:=bS (qB1 HB zb) hb)))
  go_ret2
  exact⟨_,pE,pN,qB1 HB zb⟩
 rw[ip c4] at H
 have zcc:=bT c4
 have zcd:=nF c4
 clear c4
 by_cases c5:0≤yb
 rotate_left
 ·rw[iN c5] at H
  cases H
 rw[ip c5] at H
 have y9:=dT c5
 clear c5
 by_cases c6:yb<(l0.length:Int)
 rotate_left
 ·rw[iN c6] at H
  cases H
 rw[ip c6] at H
 have yaa:=dT c6
 clear c6
 by_cases c7:(yc.length:Int)=(rd l0 yb)
 rotate_left
 ·rw[iN c7] at H
  have zce:=bF c7
  have zcf:=nT c7
  replace H:=oi2 H
  obtain⟨rfl,rfl⟩:=H
  go_enter Try.func33,Try.ntmps33
  go_wp2_with (first|((with_reducible refine gD 3 rfl ?_);refine bX 3 24 (aT yb yd yg yh yi yj yk yl ym yn yc.length yo) ?_;intro ze hg w19 hbox hb;have za:=aM (hbox);have zc:=gE (w:=w) hg (qB HB);have zb:=zc;replace HB:=bS (qB HB) hb;clear hb hbox hg;obtain⟨za7,za8,za9,zba,zbb,zbc,zbd,zbe,zbf,zbg,zbh,zbi,zbj,zbk,zbl,zbm,zbn,zbo,zbp,zbq⟩:=blk10 za.out)|(go_at_call 61;(with_reducible refine(fcm.calls k _ _ l0 yb yd zg zd _ ?s1 HC0.out A3.out).mono ?_);(case s1=>exact sC HR0 HB);rintro e w21 ⟨zh,rfl,ho0,hb⟩;have zf:=aM (Kd.R_lower ho0 (below_size (qB1 HB zb)));replace za:=bK za hb;replace HB:=bS (qB1 HB zb) hb;obtain⟨zbr,zbs,zbt,zbu,zbv,zbw,zbx,zby,zbz,zb0,zb1,zb2,zb3,zb4,zb5,zb6,zb7,zb8,zb9,zca⟩:=blk10 za.out;obtain⟨yp,⟨⟩,ya,yq,yr⟩:=zI HR0.out yb;replace ya:=zW HB ya))
  repeat(go_quiet (first|((with_reducible refine gD 3 rfl ?_);refine bX 3 24 (aT yb yd yg yh yi yj yk yl ym yn yc.length yo) ?_;intro ze hg w19 hbox hb;have za:=aM (hbox);have zc:=gE (w:=w) hg (qB HB);have zb:=zc;replace HB:=bS (qB HB) hb;clear hb hbox hg;obtain⟨za7,za8,za9,zba,zbb,zbc,zbd,zbe,zbf,zbg,zbh,zbi,zbj,zbk,zbl,zbm,zbn,zbo,zbp,zbq⟩:=blk10 za.out)|(go_at_call 61;(with_reducible refine(fcm.calls k _ _ l0 yb yd zg zd _ ?s1 HC0.out A3.out).mono ?_);(case s1=>exact sC HR0 HB);rintro e w21 ⟨zh,rfl,ho0,hb⟩;have zf:=aM (Kd.R_lower ho0 (below_size (qB1 HB zb)));replace za:=bK za hb;replace HB:=bS (qB1 HB zb) hb;obtain⟨zbr,zbs,zbt,zbu,zbv,zbw,zbx,zby,zbz,zb0,zb1,zb2,zb3,zb4,zb5,zb6,zb7,zb8,zb9,zca⟩:=blk10 za.out;obtain⟨yp,⟨⟩,ya,yq,yr⟩:=zI HR0.out yb;replace ya:=zW HB ya));try go_wp2_with (first|((with_reducible refine gD 3 rfl ?_);refine bX 3 24 (aT yb yd yg yh yi yj yk yl ym yn yc.length yo) ?_;intro ze hg w19 hbox hb;have za:=aM (hbox);have zc:=gE (w:=w) hg (qB HB);have zb:=zc;replace HB:=bS (qB HB) hb;clear hb hbox hg;obtain⟨za7,za8,za9,zba,zbb,zbc,zbd,zbe,zbf,zbg,zbh,zbi,zbj,zbk,zbl,zbm,zbn,zbo,zbp,zbq⟩:=blk10 za.out)|(go_at_call 61;(with_reducible refine(fcm.calls k _ _ l0 yb yd zg zd _ ?s1 HC0.out A3.out).mono ?_);(case s1=>exact sC HR0 HB);rintro e w21 ⟨zh,rfl,ho0,hb⟩;have zf:=aM (Kd.R_lower ho0 (below_size (qB1 HB zb)));replace za:=bK za hb;replace HB:=bS (qB1 HB zb) hb;obtain⟨zbr,zbs,zbt,zbu,zbv,zbw,zbx,zby,zbz,zb0,zb1,zb2,zb3,zb4,zb5,zb6,zb7,zb8,zb9,zca⟩:=blk10 za.out;obtain⟨yp,⟨⟩,ya,yq,yr⟩:=zI HR0.out yb;replace ya:=zW HB ya)))
  go_ret2
  exact⟨_,pE,pN,qB1 HB zb⟩
 rw[ip c7] at H
 have zce:=bT c7
 have zcf:=nF c7
 clear c7
 have H':=aM H
 clear H
 go_enter Try.func33,Try.ntmps33
 go_wp2_with (first|((with_reducible refine gD 3 rfl ?_);refine bX 3 24 (aT yb yd yg yh yi yj yk yl ym yn yc.length yo) ?_;intro ze hg w8 hbox hb;have za:=aM (hbox);have zc:=gE (w:=w) hg (qB HB);have zb:=zc;replace HB:=bS (qB HB) hb;clear hb hbox hg;obtain⟨z2,z3,z4,z5,z6,z7,z8,z9,zaa,zab,zac,zad,zae,zaf,zag,zah,zai,zaj,zak,zal⟩:=blk10 za.out)|(go_at_call 61;(with_reducible refine(fcm.calls k _ _ l0 yb yd zg zd _ ?s1 HC0.out A3.out).mono ?_);(case s1=>exact sC HR0 HB);rintro e w10 ⟨zh,rfl,ho0,hb⟩;have zf:=aM (Kd.R_lower ho0 (below_size (qB1 HB zb)));replace za:=bK za hb;replace HB:=bS (qB1 HB zb) hb;obtain⟨zi,zj,zk,zl,zm,zn,zo,zp,zq,zr,zs,zt,zu,zv,zw,zx,zy,zz,z0,z1⟩:=blk10 za.out;obtain⟨yp,⟨⟩,ya,yq,yr⟩:=zI HR0.out yb;replace ya:=zW HB ya))
 repeat(go_quiet (first|((with_reducible refine gD 3 rfl ?_);refine bX 3 24 (aT yb yd yg yh yi yj yk yl ym yn yc.length yo) ?_;intro ze hg w8 hbox hb;have za:=aM (hbox);have zc:=gE (w:=w) hg (qB HB);have zb:=zc;replace HB:=bS (qB HB) hb;clear hb hbox hg;obtain⟨z2,z3,z4,z5,z6,z7,z8,z9,zaa,zab,zac,zad,zae,zaf,zag,zah,zai,zaj,zak,zal⟩:=blk10 za.out)|(go_at_call 61;(with_reducible refine(fcm.calls k _ _ l0 yb yd zg zd _ ?s1 HC0.out A3.out).mono ?_);(case s1=>exact sC HR0 HB);rintro e w10 ⟨zh,rfl,ho0,hb⟩;have zf:=aM (Kd.R_lower ho0 (below_size (qB1 HB zb)));replace za:=bK za hb;replace HB:=bS (qB1 HB zb) hb;obtain⟨zi,zj,zk,zl,zm,zn,zo,zp,zq,zr,zs,zt,zu,zv,zw,zx,zy,zz,z0,z1⟩:=blk10 za.out;obtain⟨yp,⟨⟩,ya,yq,yr⟩:=zI HR0.out yb;replace ya:=zW HB ya));try go_wp2_with (first|((with_reducible refine gD 3 rfl ?_);refine bX 3 24 (aT yb yd yg yh yi yj yk yl ym yn yc.length yo) ?_;intro ze hg w8 hbox hb;have za:=aM (hbox);have zc:=gE (w:=w) hg (qB HB);have zb:=zc;replace HB:=bS (qB HB) hb;clear hb hbox hg;obtain⟨z2,z3,z4,z5,z6,z7,z8,z9,zaa,zab,zac,zad,zae,zaf,zag,zah,zai,zaj,zak,zal⟩:=blk10 za.out)|(go_at_call 61;(with_reducible refine(fcm.calls k _ _ l0 yb yd zg zd _ ?s1 HC0.out A3.out).mono ?_);(case s1=>exact sC HR0 HB);rintro e w10 ⟨zh,rfl,ho0,hb⟩;have zf:=aM (Kd.R_lower ho0 (below_size (qB1 HB zb)));replace za:=bK za hb;replace HB:=bS (qB1 HB zb) hb;obtain⟨zi,zj,zk,zl,zm,zn,zo,zp,zq,zr,zs,zt,zu,zv,zw,zx,zy,zz,z0,z1⟩:=blk10 za.out;obtain⟨yp,⟨⟩,ya,yq,yr⟩:=zI HR0.out yb;replace ya:=zW HB ya)))
 go_loopg [36] k (fun kq v36 w'=>∃ (ye:Int),v36=.int .i64 ye∧Aside0 (fbx.l0 kq zg yc (yc.length:Int) ye yb yd yg yh yi yj yk yl ym yc=some (r1,r2))∧Aside0 (kq≤k)∧Aside0 (Kd.R (Kd.int .i64) 3 w' w.heap.size (fun _=>True) zh zg)∧Aside0 (w'.heap[ze]?=some (.cells (aT yb yd yg yh yi yj yk yl ym yn yc.length yo) 24 (0,0)))∧Aside0 (Below w.heap.size w w'))
 case atStart=>exact⟨(0),(pF),H',⟨Nat.le_refl _⟩,⟨pR zf.out⟩,⟨pK za.out⟩,⟨qB1 HB zb⟩⟩
 clear H'
 try clear zcc
 try clear zcd
 try clear y9
 try clear yaa
 try clear zce
 try clear zcf
 try clear zi zj zk zl zm zn zo zp zq zr z2 z3 z4 z5 z6 z7 z8 z9 zaa zab zs zt zu zv zw zx zy zz z0 z1 zac zad zae zaf zag zah zai zaj zak zal
 try clear ya
 try clear yq
 try clear yr
 obtain⟨ye,rfl,HA,HK1,zcg,za,HB⟩:=hrel
 cases gk with
 | zero=>exact absurd HA.out (by simp[fbx.l0])
 | succ k1=>?_
 have H:=HA.out
 clear HA
 simp only[fbx.l0] at H
 by_cases c12:ye<(yc.length:Int)
 rotate_left
 ·rw[iN c12] at H
  have y4:=dF c12
  clear c12
  replace H:=oi2 H
  obtain⟨rfl,rfl⟩:=H
  go_wp2
  repeat(go_quiet (fail);try go_wp2)
  go_ret2
  exact⟨_,pE,pR zcg.out,qB1 HB zb⟩
 rw[ip c12] at H
 have y4:=dT c12
 clear c12
 by_cases c13:0≤ye
 rotate_left
 ·rw[iN c13] at H
  cases H
 rw[ip c13] at H
 have c13b0:=dT c13
 clear c13
 by_cases c14:ye<(yc.length:Int)
 rotate_left
 ·rw[iN c14] at H
  cases H
 rw[ip c14] at H
 have c14b0:=dT c14
 clear c14
 by_cases c15:(rd yc ye)<0
 ·rw[ip c15] at H
  have y5:=dT c15
  clear c15
  replace H:=oi2 H
  obtain⟨rfl,rfl⟩:=H
  obtain⟨y3,⟨⟩,yf,y6,y7⟩:=zI zcb.out ye
  replace yf:=zW HB yf
  go_wp2
  repeat(go_quiet (fail);try go_wp2)
  go_ret2
  exact⟨_,pE,pN,qB1 HB zb⟩
 rw[iN c15] at H
 have y5:=dF c15
 clear c15
 by_cases c16:(rd yc ye) ≥ yd
 ·rw[ip c16] at H
  have y8:decide (yd≤(rd yc ye))=true:=decide_eq_true c16
  clear c16
  replace H:=oi2 H
  obtain⟨rfl,rfl⟩:=H
  obtain⟨y3,⟨⟩,yf,y6,y7⟩:=zI zcb.out ye
  replace yf:=zW HB yf
  have hcz17:=blk10 za.out
  go_wp2
  repeat(go_quiet (fail);try go_wp2)
  go_ret2
  exact⟨_,pE,pN,qB1 HB zb⟩
 rw[iN c16] at H
 have y8:decide (yd≤(rd yc ye))=false:=decide_eq_false c16
 clear c16
 have H':=aM H
 clear H
 obtain⟨y3,⟨⟩,yf,y6,y7⟩:=zI zcb.out ye
 replace yf:=zW HB yf
 have hcz18:=blk10 za.out
 go_wp2
 repeat(go_quiet (fail);try go_wp2)
 go_roundg k1
 case measure=>have:=HK1.out;omega
 case rel=>exact⟨(wrap64 (ye+1)),(pF),H',⟨pO1 HK1⟩,⟨pR zcg.out⟩,⟨pK za.out⟩,⟨qB1 HB zb⟩⟩
mutual
def fby.j0:Nat→List Int→Bool→Int→Int→Int→Int→Int→Int→Int→Int→Bool→List Int→Option (List Int×Int)
 | 0,_,_,_,_,_,_,_,_,_,_,_,_=>none
 | k+1,x0,x17,zb,ze,zf,zg,zh,zi,zj,zk,zl,zc=>if x17=true then(some (([]:List Int),10))else(fby.l0 k x0 zc (zc.length:Int) 0 zb ze zf zg zh zi zj zk zl zc)
def fby.l0:Nat→List Int→List Int→Int→Int→Int→Int→Int→Int→Int→Int→Int→Int→Bool→List Int→Option (List Int×Int)
 | 0,_,_,_,_,_,_,_,_,_,_,_,_,_,_=>none
 | k+1,x0,x19,x20,x21,zb,ze,zf,zg,zh,zi,zj,zk,zl,zc=>if x21<x20 then(if 0≤x21 then(if x21<(x19.length:Int)then(if(rd x19 x21)<0 then(some (([]:List Int),11))else(if 0≤zb then(if zb<(x0.length:Int)then(if(rd x19 x21) ≥ (rd x0 zb)then(some (([]:List Int),11))else(fby.l0 k x0 x19 x20 (wrap64 (x21+1)) zb ze zf zg zh zi zj zk zl zc))else(none))else(none)))else(none))else(none))else((fcm.f k x0 zb (zc.length:Int)).bind fun bt299=>(some (bt299.1,bt299.2)))
end
def fby.f (k:Nat) (l0:List Int)(ya yf yg yh yi yj yk yl:Int)(ym:Bool)(yb:List Int):Option (List Int×Int):=if ya<0 then(fby.j0 k l0 true ya yf yg yh yi yj yk yl ym yb)else(fby.j0 k l0 (decide (ya ≥ (l0.length:Int))) ya yf yg yh yi yj yk yl ym yb)
theorem fby.calls (k:Nat)(A0:Option Addr)(c0:Nat)(l0:List Int)(ya yf yg yh yi yj yk yl:Int)(ym:Bool)(yo:Option Addr)(yp:Nat)(yb r1:List Int)(r2:Int)(w:World)(hr0:Kd.C (Kd.int .i64) w A0 l0.length l0)(hc0:l0.length≤c0)(yq:Kd.C (Kd.int .i64) w yo yb.length yb)(yr:yb.length≤yp)(h:fby.f k l0 ya yf yg yh yi yj yk yl ym yb=some (r1,r2)) :
  Calls Try.prog 32 #[.slice A0 l0.length c0,.agg #[.int .i64 ya,.int .i64 yf,.int .i64 yg,.int .i64 yh,.int .i64 yi,.int .i64 yj,.int .i64 yk,.int .i64 yl,.bool ym,.slice yo yb.length yp]] w fun e w'=>∃ v0_:Value,e=.returned (.tuple #[v0_,.int .i64 r2])∧Kd.R (Kd.int .i64) 3 w' w.heap.size (fun _=>True) v0_ r1∧Below w.heap.size w w':=by
 have hu24:=Try.underlying24
 have HR0:=aM hr0
 have HC0:=aM hc0
 clear hr0 hc0
 have zm:=aM yq
 have HC1_9:=aM yr
 clear yq yr
 have HB:=aM (Below.refl w.heap.size w)
 have H:(if ya<0 then(fby.j0 k l0 true ya yf yg yh yi yj yk yl ym yb)else(fby.j0 k l0 (decide (ya ≥ (l0.length:Int))) ya yf yg yh yi yj yk yl ym yb))=some (r1,r2):=h
 clear h
 have HC3:=aM H
 clear H
 go_enter Try.func32,Try.ntmps32
 go_upto_region 1 with(first|((with_reducible refine gD 3 rfl ?_);(try (refine gate_guard (by rfl) ?_;dsimp only));refine bX 3 24 (aT ya yf yg yh yi yj yk yl ym yo yb.length yp) ?_;intro zo hg w4 hbox hb;have za:=aM (hbox);have GW296:=gE (w:=w) hg (qB HB);have zd:=GW296;replace HB:=bS (qB HB) hb;clear hb hbox hg))
 (try simp only[Act.put,sP])
 go_cut [17] (fun v17 wc=>∃ (kq:Nat) (yn:Bool),v17=.bool yn∧Aside0 (fby.j0 kq l0 yn ya yf yg yh yi yj yk yl ym yb=some (r1,r2))∧Aside0 (kq≤k)∧Aside0 (wc.heap[zo]?=some (.cells (aT ya yf yg yh yi yj yk yl ym yo yb.length yp) 24 (0,0)))∧Aside0 (Below w.heap.size w wc))
 case first =>
  have H:=HC3.out
  clear HC3
  by_cases c5:ya<0
  ·rw[ip c5] at H
   have zn:=dT c5
   clear c5
   (first|rw[zn]|(simp only[i64_w,i32_w];rw[zn])|skip)
   have H':=aM H
   clear H
   have hcz6:=blk10 za.out
   go_wp2
   go_meet
   case rel=>exact⟨_,(true),(pF),H',⟨pO⟩,⟨pK za.out⟩,⟨qB1 HB zd⟩⟩
  rw[iN c5] at H
  have zn:=dF c5
  clear c5
  (first|rw[zn]|(simp only[i64_w,i32_w];rw[zn])|skip)
  have H':=aM H
  clear H
  have hcz7:=blk10 za.out
  go_wp2
  go_meet
  case rel=>exact⟨_,(decide (ya ≥ (l0.length:Int))),(pF),H',⟨pO⟩,⟨pK za.out⟩,⟨qB1 HB zd⟩⟩
 clear HC3
 obtain⟨kq,yn,rfl,HA,HJ2,za,HB⟩:=hcut
 cases kq with
 | zero=>exact absurd HA.out (by simp[fby.j0])
 | succ kj2=>?_
 have H:=HA.out
 clear HA
 simp only[fby.j0] at H
 by_cases c8:yn=true
 ·subst c8
  rw[ip rfl] at H
  replace H:=oi2 H
  obtain⟨rfl,rfl⟩:=H
  go_wp2
  go_ret2
  exact⟨_,pE,pN,qB1 HB zd⟩
 replace c8:=Bool.eq_false_iff.mpr c8
 subst c8
 rw[iN fT] at H
 have H':=aM H
 clear H
 have hcz9:=blk10 za.out
 go_wp2
 go_loopg [21] kj2 (fun kq v21 w'=>∃ (yc:Int),v21=.int .i64 yc∧Aside0 (fby.l0 kq l0 yb (yb.length:Int) yc ya yf yg yh yi yj yk yl ym yb=some (r1,r2))∧Aside0 (kq≤kj2)∧Aside0 (w'.heap[zo]?=some (.cells (aT ya yf yg yh yi yj yk yl ym yo yb.length yp) 24 (0,0)))∧Aside0 (Below w.heap.size w w'))
 case atStart=>exact⟨(0),(pF),H',⟨Nat.le_refl _⟩,⟨pK za.out⟩,⟨qB1 HB zd⟩⟩
 clear H'
 try clear c8
 try clear hcz9
 obtain⟨yc,rfl,HA,HK2,za,HB⟩:=hrel
 cases gk with
 | zero=>exact absurd HA.out (by simp[fby.l0])
 | succ k2=>?_
 have H:=HA.out
 clear HA
 simp only[fby.l0] at H
 by_cases c10:yc<(yb.length:Int)
 rotate_left
 ·rw[iN c10] at H
  have yt:=dF c10
  clear c10
  replace H:=oB H
  obtain⟨⟨t299,t300⟩,zp,H⟩:=H
  try dsimp only at H
  have A19:=aM zp
  clear zp
  replace H:=oi2 H
  obtain⟨rfl,rfl⟩:=H
  have hcz20:=blk10 za.out
  go_wp2_with (first|((with_reducible refine gC 61 rfl ?_);refine gL 43 Try.func61 #[.slice A0 l0.length c0,.int .i64 ya,.int .i64 (yb.length:Int)] ?_;(with_reducible refine(fcm.calls k2 _ _ l0 ya (yb.length:Int) t299 t300 _ ?s1 HC0.out A19.out).mono ?_);(case s1=>exact sC HR0 HB);rintro e w21 ⟨v301,rfl,ho0,hb⟩;refine⟨_,rfl,?_⟩;have HO302:=aM (Kd.R_lower ho0 (below_size (qB1 HB zd)));replace za:=bK za hb;replace HB:=bS (qB1 HB zd) hb))
  go_ret2
  exact⟨_,pE,pR HO302.out,qB1 HB zd⟩
 rw[ip c10] at H
 have yt:=dT c10
 clear c10
 by_cases c11:0≤yc
 rotate_left
 ·rw[iN c11] at H
  cases H
 rw[ip c11] at H
 have c11b0:=dT c11
 clear c11
 by_cases c12:yc<(yb.length:Int)
 rotate_left
 ·rw[iN c12] at H
  cases H
 rw[ip c12] at H
 have c12b0:=dT c12
 clear c12
 by_cases c13:(rd yb yc)<0
 ·rw[ip c13] at H
  have yu:=dT c13
  clear c13
  replace H:=oi2 H
  obtain⟨rfl,rfl⟩:=H
  obtain⟨ys,⟨⟩,yd,yv,yw⟩:=zI zm.out yc
  replace yd:=zW HB yd
  go_wp2
  go_ret2
  exact⟨_,pE,pN,qB1 HB zd⟩
 rw[iN c13] at H
 have yu:=dF c13
 clear c13
 by_cases c14:0≤ya
 rotate_left
 ·rw[iN c14] at H
  cases H
 rw[ip c14] at H
 have c14b0:=dT c14
 clear c14
 by_cases c15:ya<(l0.length:Int)
 rotate_left
 ·rw[iN c15] at H
  cases H
 rw[ip c15] at H
 have c15b0:=dT c15
 clear c15
 by_cases c16:(rd yb yc) ≥ (rd l0 ya)
 ·rw[ip c16] at H
  have yx:decide ((rd l0 ya)≤(rd yb yc))=true:=decide_eq_true c16
  clear c16
  replace H:=oi2 H
  obtain⟨rfl,rfl⟩:=H
  obtain⟨ys,⟨⟩,yd,yv,yw⟩:=zI zm.out yc
  replace yd:=zW HB yd
  have hcz17:=blk10 za.out
  obtain⟨yy,⟨⟩,ye,yz,y0⟩:=zI HR0.out ya
  replace ye:=zW HB ye
  go_wp2
  go_ret2
  exact⟨_,pE,pN,qB1 HB zd⟩
 rw[iN c16] at H
 have yx:decide ((rd l0 ya)≤(rd yb yc))=false:=decide_eq_false c16
 clear c16
 have H':=aM H
 clear H
 obtain⟨ys,⟨⟩,yd,yv,yw⟩:=zI zm.out yc
 replace yd:=zW HB yd
 have hcz18:=blk10 za.out
 obtain⟨yy,⟨⟩,ye,yz,y0⟩:=zI HR0.out ya
 replace ye:=zW HB ye
 go_wp2
 go_roundg k2
 case measure=>have:=HJ2.out;have:=HK2.out;omega
 case rel=>exact⟨(wrap64 (yc+1)),(pF),H',⟨pO2 HJ2 HK2⟩,⟨pK za.out⟩,⟨qB1 HB zd⟩⟩
def fdc.f (a0 a1 a2:Int):Option (Int×Bool):=if a0=1 then(some (0,true))else(if a1 ≥ a2 then(some (0,false))else(if a1≤(wrap64 (-a2))then(some (0,false))else(some (wrap64 ((wrap64 (a0-1))*a1),true))))
theorem fdc.calls (a0 a1 a2 r1:Int)(r2:Bool)(w:World)(h:fdc.f a0 a1 a2=some (r1,r2)) :
  Calls Try.prog 91 #[.int .i64 a0,.int .i64 a1,.int .i64 a2] w fun e w'=>e=.returned (.tuple #[.int .i64 r1,.bool r2])∧Drawn0 w w':=by
 have H:(if a0=1 then(some (0,true))else(if a1 ≥ a2 then(some (0,false))else(if a1≤(wrap64 (-a2))then(some (0,false))else(some (wrap64 ((wrap64 (a0-1))*a1),true)))))=some (r1,r2):=h
 clear h
 by_cases c4:a0=1
 ·rw[ip c4] at H
  have ya:=bT c4
  have yb:=nF c4
  clear c4
  replace H:=oi2 H
  obtain⟨rfl,rfl⟩:=H
  go_enter Try.func91,Try.ntmps91
  go_wp2
  go_ret2
  exact⟨pF,pW⟩
 rw[iN c4] at H
 have ya:=bF c4
 have yb:=nT c4
 by_cases c5:a1 ≥ a2
 ·rw[ip c5] at H
  have yc:decide (a2≤a1)=true:=decide_eq_true c5
  clear c5
  replace H:=oi2 H
  obtain⟨rfl,rfl⟩:=H
  go_enter Try.func91,Try.ntmps91
  go_wp2
  go_ret2
  exact⟨pF,pW⟩
 rw[iN c5] at H
 have yc:decide (a2≤a1)=false:=decide_eq_false c5
 clear c5
 by_cases c6:a1≤(wrap64 (-a2))
 ·rw[ip c6] at H
  have yd:=dT c6
  clear c6
  replace H:=oi2 H
  obtain⟨rfl,rfl⟩:=H
  go_enter Try.func91,Try.ntmps91
  go_wp2
  go_ret2
  exact⟨pF,pW⟩
 rw[iN c6] at H
 have yd:=dF c6
 clear c6
 replace H:=oi2 H
 obtain⟨rfl,rfl⟩:=H
 go_enter Try.func91,Try.ntmps91
 go_wp2
 go_ret2
 exact⟨pF,pW⟩
mutual
def fcx.j0:Nat→Int→Bool→Int→List Int→List Int→Option (Bool)
 | 0,_,_,_,_,_=>none
 | k+1,x1,x38,zf,zg,zh=>if x38=true then(some false)else(fcx.l0 k x1 zf zf zg (zg.length:Int) 0 zf zg zh)
def fcx.l0:Nat→Int→Int→Int→List Int→Int→Int→Int→List Int→List Int→Option (Bool)
 | 0,_,_,_,_,_,_,_,_,_=>none
 | k+1,x1,x5,x6,x44,x45,x46,zf,zg,zh=>if x46<x45 then(if 0≤x46 then(if x46<(x44.length:Int)then(if x46<(zh.length:Int)then((fdc.f (rd x44 x46) (rd zh x46) x1).bind fun bt107=>(if bt107.2=true then(fcx.l0 k x1 (wrap64 (x5+(mn bt107.1 0))) (wrap64 (x6+(mx bt107.1 0))) x44 x45 (wrap64 (x46+1)) zf zg zh)else(some false)))else(none))else(none))else(none))else(if x5 ≥ 0 then(some (decide (x6<x1)))else(some false))
end
def fcx.f (k:Nat) (yd:Int)(ya yc:List Int)(a1:Int):Option (Bool):=(fcg.f ya).bind fun zc=>(if zc=0 then(if(yc.length:Int)=(ya.length:Int)then(if a1 > 64 then(fcx.j0 k a1 true yd ya yc)else(if yd<0 then(fcx.j0 k a1 true yd ya yc)else(fcx.j0 k a1 (decide (yd ≥ a1)) yd ya yc)))else(fcx.j0 k a1 true yd ya yc))else(fcx.j0 k a1 true yd ya yc))
theorem fcx.calls (k:Nat) (yd:Int)(yh:Option Addr)(yi:Nat)(ya:List Int)(yj:Option Addr)(yk:Nat)(yc:List Int)(a1:Int)(r:Bool)(w:World)(yn:Kd.C (Kd.int .i64) w yh ya.length ya)(yo:ya.length≤yi)(yp:Kd.C (Kd.int .i64) w yj yc.length yc)(yq:yc.length≤yk)(h:fcx.f k yd ya yc a1=some r) :
  Calls Try.prog 74 #[.agg #[.int .i64 yd,.slice yh ya.length yi,.slice yj yc.length yk],.int .i64 a1] w fun e w'=>e=.returned (.bool r)∧Below w.heap.size w w':=by
 have hu44:=Try.underlying44
 have zb:=aM yn
 have zd:=aM yo
 clear yn yo
 have zm:=aM yp
 have HC0_2:=aM yq
 clear yp yq
 have HB:=aM (Below.refl w.heap.size w)
 have H:((fcg.f ya).bind fun zc=>(if zc=0 then(if(yc.length:Int)=(ya.length:Int)then(if a1 > 64 then(fcx.j0 k a1 true yd ya yc)else(if yd<0 then(fcx.j0 k a1 true yd ya yc)else(fcx.j0 k a1 (decide (yd ≥ a1)) yd ya yc)))else(fcx.j0 k a1 true yd ya yc))else(fcx.j0 k a1 true yd ya yc)))=some r:=h
 clear h
 have HC3:=aM H
 clear H
 go_enter Try.func74,Try.ntmps74
 go_upto_region 1 with(first|((with_reducible refine gD 2 rfl ?_);(try (refine gate_guard (by rfl) ?_;dsimp only));refine bX 2 44 #[.int .i64 yd,.slice yh ya.length yi,.slice yj yc.length yk] ?_;intro zk hg w4 hbox hb;have za:=aM (hbox);have zj:=gE (w:=w) hg (qB HB);have ze:=zj;replace HB:=bS (qB HB) hb;clear hb hbox hg))
 repeat(go_quiet (first|((with_reducible refine gD 2 rfl ?_);(try (refine gate_guard (by rfl) ?_;dsimp only));refine bX 2 44 #[.int .i64 yd,.slice yh ya.length yi,.slice yj yc.length yk] ?_;intro zk hg w4 hbox hb;have za:=aM (hbox);have zj:=gE (w:=w) hg (qB HB);have ze:=zj;replace HB:=bS (qB HB) hb;clear hb hbox hg));go_upto_region 1 with(first|((with_reducible refine gD 2 rfl ?_);(try (refine gate_guard (by rfl) ?_;dsimp only));refine bX 2 44 #[.int .i64 yd,.slice yh ya.length yi,.slice yj yc.length yk] ?_;intro zk hg w4 hbox hb;have za:=aM (hbox);have zj:=gE (w:=w) hg (qB HB);have ze:=zj;replace HB:=bS (qB HB) hb;clear hb hbox hg)))
 (try simp only[Act.put,sP])
 go_cut [38] (fun v38 wc=>∃ (kq:Nat) (yl:Bool),v38=.bool yl∧Aside0 (fcx.j0 kq a1 yl yd ya yc=some r)∧Aside0 (kq≤k)∧Aside0 (wc.heap[zk]?=some (.cells #[.int .i64 yd,(.slice yh ya.length yi),(.slice yj yc.length yk)] 44 (0,0)))∧Aside0 (Below w.heap.size w wc))
 case first =>
  have H:=HC3.out
  clear HC3
  replace H:=oB H
  obtain⟨zc,A50,H⟩:=H
  try dsimp only at H
  have A5:=aM A50
  clear A50
  by_cases c6:zc=0
  rotate_left
  ·rw[iN c6] at H
   have zl:=bF c6
   have yx:=nT c6
   (first|rw[zl]|(simp only[i64_w,i32_w];rw[zl])|skip)
   have H':=aM H
   clear H
   have hcz14:=blk3 za.out
   go_wp2_with (first|(go_at_call 31;(with_reducible refine(fcg.calls _ _ ya zc _ ?s1 zd.out A5.out).mono ?_);(case s1=>exact sC zb HB);rintro e w' ⟨rfl,⟨nd,rfl⟩⟩;(try first|exact⟨rfl,_,World.drewN_drewN _ _ _⟩|exact⟨rfl,_,Eq.trans (World.drewN_drewN _ _ _) (congrArg (World.drewN _) (Nat.add_assoc _ _ _))⟩)))
   repeat(go_quiet (first|(go_at_call 31;(with_reducible refine(fcg.calls _ _ ya zc _ ?s1 zd.out A5.out).mono ?_);(case s1=>exact sC zb HB);rintro e w' ⟨rfl,⟨nd,rfl⟩⟩;(try first|exact⟨rfl,_,World.drewN_drewN _ _ _⟩|exact⟨rfl,_,Eq.trans (World.drewN_drewN _ _ _) (congrArg (World.drewN _) (Nat.add_assoc _ _ _))⟩)));try go_wp2_with (first|(go_at_call 31;(with_reducible refine(fcg.calls _ _ ya zc _ ?s1 zd.out A5.out).mono ?_);(case s1=>exact sC zb HB);rintro e w' ⟨rfl,⟨nd,rfl⟩⟩;(try first|exact⟨rfl,_,World.drewN_drewN _ _ _⟩|exact⟨rfl,_,Eq.trans (World.drewN_drewN _ _ _) (congrArg (World.drewN _) (Nat.add_assoc _ _ _))⟩))))
   go_meet
   case rel=>exact⟨_,(true),(pF),H',⟨pO⟩,⟨pK za.out⟩,⟨qB1 HB ze⟩⟩
  rw[ip c6] at H
  have zl:=bT c6
  have yx:=nF c6
  clear c6
  (first|rw[zl]|(simp only[i64_w,i32_w];rw[zl])|skip)
  by_cases c7:(yc.length:Int)=(ya.length:Int)
  rotate_left
  ·rw[iN c7] at H
   have yy:=bF c7
   have yz:=nT c7
   have y0:(yc.length==ya.length)=false:=by first|simpa using c7|(simp at c7 ⊢;omega)
   have H':=aM H
   clear H
   have hcz13:=blk3 za.out
   go_wp2_with (first|(go_at_call 31;(with_reducible refine(fcg.calls _ _ ya zc _ ?s1 zd.out A5.out).mono ?_);(case s1=>exact sC zb HB);rintro e w' ⟨rfl,⟨nd,rfl⟩⟩;(try first|exact⟨rfl,_,World.drewN_drewN _ _ _⟩|exact⟨rfl,_,Eq.trans (World.drewN_drewN _ _ _) (congrArg (World.drewN _) (Nat.add_assoc _ _ _))⟩)))
   repeat(go_quiet (first|(go_at_call 31;(with_reducible refine(fcg.calls _ _ ya zc _ ?s1 zd.out A5.out).mono ?_);(case s1=>exact sC zb HB);rintro e w' ⟨rfl,⟨nd,rfl⟩⟩;(try first|exact⟨rfl,_,World.drewN_drewN _ _ _⟩|exact⟨rfl,_,Eq.trans (World.drewN_drewN _ _ _) (congrArg (World.drewN _) (Nat.add_assoc _ _ _))⟩)));try go_wp2_with (first|(go_at_call 31;(with_reducible refine(fcg.calls _ _ ya zc _ ?s1 zd.out A5.out).mono ?_);(case s1=>exact sC zb HB);rintro e w' ⟨rfl,⟨nd,rfl⟩⟩;(try first|exact⟨rfl,_,World.drewN_drewN _ _ _⟩|exact⟨rfl,_,Eq.trans (World.drewN_drewN _ _ _) (congrArg (World.drewN _) (Nat.add_assoc _ _ _))⟩))))
   go_meet
   case rel=>exact⟨_,(true),(pF),H',⟨pO⟩,⟨pK za.out⟩,⟨qB1 HB ze⟩⟩
  rw[ip c7] at H
  have yy:=bT c7
  have yz:=nF c7
  have y0:(yc.length==ya.length)=true:=by first|simpa using c7|(simp at c7 ⊢;omega)
  clear c7
  by_cases c8:a1 > 64
  ·rw[ip c8] at H
   have y1:decide (64<a1)=true:=decide_eq_true c8
   clear c8
   have H':=aM H
   clear H
   have hcz9:=blk3 za.out
   go_wp2_with (first|(go_at_call 31;(with_reducible refine(fcg.calls _ _ ya zc _ ?s1 zd.out A5.out).mono ?_);(case s1=>exact sC zb HB);rintro e w' ⟨rfl,⟨nd,rfl⟩⟩;(try first|exact⟨rfl,_,World.drewN_drewN _ _ _⟩|exact⟨rfl,_,Eq.trans (World.drewN_drewN _ _ _) (congrArg (World.drewN _) (Nat.add_assoc _ _ _))⟩)))
   repeat(go_quiet (first|(go_at_call 31;(with_reducible refine(fcg.calls _ _ ya zc _ ?s1 zd.out A5.out).mono ?_);(case s1=>exact sC zb HB);rintro e w' ⟨rfl,⟨nd,rfl⟩⟩;(try first|exact⟨rfl,_,World.drewN_drewN _ _ _⟩|exact⟨rfl,_,Eq.trans (World.drewN_drewN _ _ _) (congrArg (World.drewN _) (Nat.add_assoc _ _ _))⟩)));try go_wp2_with (first|(go_at_call 31;(with_reducible refine(fcg.calls _ _ ya zc _ ?s1 zd.out A5.out).mono ?_);(case s1=>exact sC zb HB);rintro e w' ⟨rfl,⟨nd,rfl⟩⟩;(try first|exact⟨rfl,_,World.drewN_drewN _ _ _⟩|exact⟨rfl,_,Eq.trans (World.drewN_drewN _ _ _) (congrArg (World.drewN _) (Nat.add_assoc _ _ _))⟩))))
   go_meet
   case rel=>exact⟨_,(true),(pF),H',⟨pO⟩,⟨pK za.out⟩,⟨qB1 HB ze⟩⟩
  rw[iN c8] at H
  have y1:decide (64<a1)=false:=decide_eq_false c8
  clear c8
  by_cases c10:yd<0
  ·rw[ip c10] at H
   have yr:=dT c10
   clear c10
   have H':=aM H
   clear H
   have hcz11:=blk3 za.out
   go_wp2_with (first|(go_at_call 31;(with_reducible refine(fcg.calls _ _ ya zc _ ?s1 zd.out A5.out).mono ?_);(case s1=>exact sC zb HB);rintro e w' ⟨rfl,⟨nd,rfl⟩⟩;(try first|exact⟨rfl,_,World.drewN_drewN _ _ _⟩|exact⟨rfl,_,Eq.trans (World.drewN_drewN _ _ _) (congrArg (World.drewN _) (Nat.add_assoc _ _ _))⟩)))
   repeat(go_quiet (first|(go_at_call 31;(with_reducible refine(fcg.calls _ _ ya zc _ ?s1 zd.out A5.out).mono ?_);(case s1=>exact sC zb HB);rintro e w' ⟨rfl,⟨nd,rfl⟩⟩;(try first|exact⟨rfl,_,World.drewN_drewN _ _ _⟩|exact⟨rfl,_,Eq.trans (World.drewN_drewN _ _ _) (congrArg (World.drewN _) (Nat.add_assoc _ _ _))⟩)));try go_wp2_with (first|(go_at_call 31;(with_reducible refine(fcg.calls _ _ ya zc _ ?s1 zd.out A5.out).mono ?_);(case s1=>exact sC zb HB);rintro e w' ⟨rfl,⟨nd,rfl⟩⟩;(try first|exact⟨rfl,_,World.drewN_drewN _ _ _⟩|exact⟨rfl,_,Eq.trans (World.drewN_drewN _ _ _) (congrArg (World.drewN _) (Nat.add_assoc _ _ _))⟩))))
   go_meet
   case rel=>exact⟨_,(true),(pF),H',⟨pO⟩,⟨pK za.out⟩,⟨qB1 HB ze⟩⟩
  rw[iN c10] at H
  have yr:=dF c10
  clear c10
  have H':=aM H
  clear H
  have hcz12:=blk3 za.out
  go_wp2_with (first|(go_at_call 31;(with_reducible refine(fcg.calls _ _ ya zc _ ?s1 zd.out A5.out).mono ?_);(case s1=>exact sC zb HB);rintro e w' ⟨rfl,⟨nd,rfl⟩⟩;(try first|exact⟨rfl,_,World.drewN_drewN _ _ _⟩|exact⟨rfl,_,Eq.trans (World.drewN_drewN _ _ _) (congrArg (World.drewN _) (Nat.add_assoc _ _ _))⟩)))
  repeat(go_quiet (first|(go_at_call 31;(with_reducible refine(fcg.calls _ _ ya zc _ ?s1 zd.out A5.out).mono ?_);(case s1=>exact sC zb HB);rintro e w' ⟨rfl,⟨nd,rfl⟩⟩;(try first|exact⟨rfl,_,World.drewN_drewN _ _ _⟩|exact⟨rfl,_,Eq.trans (World.drewN_drewN _ _ _) (congrArg (World.drewN _) (Nat.add_assoc _ _ _))⟩)));try go_wp2_with (first|(go_at_call 31;(with_reducible refine(fcg.calls _ _ ya zc _ ?s1 zd.out A5.out).mono ?_);(case s1=>exact sC zb HB);rintro e w' ⟨rfl,⟨nd,rfl⟩⟩;(try first|exact⟨rfl,_,World.drewN_drewN _ _ _⟩|exact⟨rfl,_,Eq.trans (World.drewN_drewN _ _ _) (congrArg (World.drewN _) (Nat.add_assoc _ _ _))⟩))))
  go_meet
  case rel=>exact⟨_,(decide (yd ≥ a1)),(pF),H',⟨pO⟩,⟨pK za.out⟩,⟨qB1 HB ze⟩⟩
 clear HC3
 obtain⟨kq,yl,rfl,HA,HJ2,za,HB⟩:=hcut
 cases kq with
 | zero=>exact absurd HA.out (by simp[fcx.j0])
 | succ kj2=>?_
 have H:=HA.out
 clear HA
 simp only[fcx.j0] at H
 by_cases c15:yl=true
 ·subst c15
  rw[ip rfl] at H
  obtain rfl:=Option.some.inj H
  go_wp2
  repeat(go_quiet (fail);try go_wp2)
  go_ret
  exact⟨pE,qB1 HB ze⟩
 replace c15:=Bool.eq_false_iff.mpr c15
 subst c15
 rw[iN fT] at H
 have H':=aM H
 clear H
 have ys:=blk3 za.out
 go_wp2
 repeat(go_quiet (fail);try go_wp2)
 go_loopg [5,6,46] kj2 (fun kq v5 v6 v46 w'=>∃ (yg:Int) (ym:Int) (yb:Int),v5=.int .i64 yg∧v6=.int .i64 ym∧v46=.int .i64 yb∧Aside0 (fcx.l0 kq a1 yg ym ya (ya.length:Int) yb yd ya yc=some r)∧Aside0 (kq≤kj2)∧Aside0 (w'.heap[zk]?=some (.cells #[.int .i64 yd,(.slice yh ya.length yi),(.slice yj yc.length yk)] 44 (0,0)))∧Aside0 (Below w.heap.size w w'))
 case atStart=>exact⟨(yd),(yd),(0),(pF),(pF),(pF),H',⟨Nat.le_refl _⟩,⟨pK za.out⟩,⟨qB1 HB ze⟩⟩
 clear H'
 try clear c15
 try clear ys
 obtain⟨yg,ym,yb,rfl,rfl,rfl,HA,HK2,za,HB⟩:=hrel
 cases gk with
 | zero=>exact absurd HA.out (by simp[fcx.l0])
 | succ k2=>?_
 have H:=HA.out
 clear HA
 simp only[fcx.l0] at H
 by_cases c17:yb<(ya.length:Int)
 rotate_left
 ·rw[iN c17] at H
  have yt:=dF c17
  clear c17
  by_cases c27:yg ≥ 0
  ·rw[ip c27] at H
   have yu:decide (0≤yg)=true:=decide_eq_true c27
   clear c27
   obtain rfl:=Option.some.inj H
   go_wp2
   repeat(go_quiet (fail);try go_wp2)
   go_ret
   exact⟨pE,qB1 HB ze⟩
  rw[iN c27] at H
  have yu:decide (0≤yg)=false:=decide_eq_false c27
  clear c27
  obtain rfl:=Option.some.inj H
  go_wp2
  repeat(go_quiet (fail);try go_wp2)
  go_ret
  exact⟨pE,qB1 HB ze⟩
 rw[ip c17] at H
 have yt:=dT c17
 clear c17
 by_cases c18:0≤yb
 rotate_left
 ·rw[iN c18] at H
  cases H
 rw[ip c18] at H
 have c18b0:=dT c18
 clear c18
 by_cases c19:yb<(ya.length:Int)
 rotate_left
 ·rw[iN c19] at H
  cases H
 rw[ip c19] at H
 have c19b0:=dT c19
 clear c19
 by_cases c20:yb<(yc.length:Int)
 rotate_left
 ·rw[iN c20] at H
  cases H
 rw[ip c20] at H
 have c20b0:=dT c20
 clear c20
 replace H:=oB H
 obtain⟨⟨zi,t108⟩,zn,H⟩:=H
 try dsimp only at H
 have A21:=aM zn
 clear zn
 by_cases c22:t108=true
 rotate_left
 ·replace c22:=Bool.eq_false_iff.mpr c22
  subst c22
  rw[iN fT] at H
  obtain rfl:=Option.some.inj H
  obtain⟨yv,⟨⟩,ye,y2,y3⟩:=zI zb.out yb
  replace ye:=zW HB ye
  have hcz26:=blk3 za.out
  obtain⟨yw,⟨⟩,yf,y4,y5⟩:=zI zm.out yb
  replace yf:=zW HB yf
  go_wp2_with (first|(go_at_call 91;(with_reducible refine(fdc.calls (rd ya yb) (rd yc yb) a1 zi false _ A21.out).mono ?_);rintro e w' ⟨rfl,⟨nd,rfl⟩⟩;(try first|exact⟨rfl,_,World.drewN_drewN _ _ _⟩|exact⟨rfl,_,Eq.trans (World.drewN_drewN _ _ _) (congrArg (World.drewN _) (Nat.add_assoc _ _ _))⟩)))
  repeat(go_quiet (first|(go_at_call 91;(with_reducible refine(fdc.calls (rd ya yb) (rd yc yb) a1 zi false _ A21.out).mono ?_);rintro e w' ⟨rfl,⟨nd,rfl⟩⟩;(try first|exact⟨rfl,_,World.drewN_drewN _ _ _⟩|exact⟨rfl,_,Eq.trans (World.drewN_drewN _ _ _) (congrArg (World.drewN _) (Nat.add_assoc _ _ _))⟩)));try go_wp2_with (first|(go_at_call 91;(with_reducible refine(fdc.calls (rd ya yb) (rd yc yb) a1 zi false _ A21.out).mono ?_);rintro e w' ⟨rfl,⟨nd,rfl⟩⟩;(try first|exact⟨rfl,_,World.drewN_drewN _ _ _⟩|exact⟨rfl,_,Eq.trans (World.drewN_drewN _ _ _) (congrArg (World.drewN _) (Nat.add_assoc _ _ _))⟩))))
  go_ret
  exact⟨pE,qB1 HB ze⟩
 subst c22
 rw[ip rfl] at H
 obtain⟨ji23,hji23⟩:∃ j_:Int,(mn zi 0)=j_:=⟨_,rfl⟩
 replace H:(fcx.l0 k2 a1 (wrap64 (yg+(ji23))) (wrap64 (ym+(mx zi 0))) ya (ya.length:Int) (wrap64 (yb+1)) yd ya yc)=some r:=by first|(rw[hji23] at H;exact H)|(simp only[hji23] at H ⊢;exact H)
 (try rw[hji23] at A21)
 (try (have hji23h:ji23≤0:=by(rw[← hji23];unfold mn;(repeat' split) <;> omega)))
 (try (have hji23g:ji23≤64:=by omega))
 have hji23_:(if 0<zi then 0 else zi)=ji23:=hji23
 obtain⟨ji24,hji24⟩:∃ j_:Int,(mx zi 0)=j_:=⟨_,rfl⟩
 replace H:(fcx.l0 k2 a1 (wrap64 (yg+(ji23))) (wrap64 (ym+(ji24))) ya (ya.length:Int) (wrap64 (yb+1)) yd ya yc)=some r:=by first|(rw[hji24] at H;exact H)|(simp only[hji24] at H ⊢;exact H)
 (try rw[hji24] at A21)
 (try (have hji24l:0≤ji24:=by(rw[← hji24];unfold mx;(repeat' split) <;> omega)))
 (try (have hji24m:0≤ji24:=by omega))
 have hji24_:(if zi<0 then 0 else zi)=ji24:=hji24
 have H':=aM H
 clear H
 obtain⟨yv,⟨⟩,ye,y2,y3⟩:=zI zb.out yb
 replace ye:=zW HB ye
 have hcz25:=blk3 za.out
 obtain⟨yw,⟨⟩,yf,y4,y5⟩:=zI zm.out yb
 replace yf:=zW HB yf
 go_wp2_with (first|(go_at_call 91;(with_reducible refine(fdc.calls (rd ya yb) (rd yc yb) a1 zi true _ A21.out).mono ?_);rintro e w' ⟨rfl,⟨nd,rfl⟩⟩;(try first|exact⟨rfl,_,World.drewN_drewN _ _ _⟩|exact⟨rfl,_,Eq.trans (World.drewN_drewN _ _ _) (congrArg (World.drewN _) (Nat.add_assoc _ _ _))⟩)))
 repeat(go_quiet (first|(go_at_call 91;(with_reducible refine(fdc.calls (rd ya yb) (rd yc yb) a1 zi true _ A21.out).mono ?_);rintro e w' ⟨rfl,⟨nd,rfl⟩⟩;(try first|exact⟨rfl,_,World.drewN_drewN _ _ _⟩|exact⟨rfl,_,Eq.trans (World.drewN_drewN _ _ _) (congrArg (World.drewN _) (Nat.add_assoc _ _ _))⟩)));try go_wp2_with (first|(go_at_call 91;(with_reducible refine(fdc.calls (rd ya yb) (rd yc yb) a1 zi true _ A21.out).mono ?_);rintro e w' ⟨rfl,⟨nd,rfl⟩⟩;(try first|exact⟨rfl,_,World.drewN_drewN _ _ _⟩|exact⟨rfl,_,Eq.trans (World.drewN_drewN _ _ _) (congrArg (World.drewN _) (Nat.add_assoc _ _ _))⟩))))
 go_roundg k2
 case measure=>have:=HJ2.out;have:=HK2.out;omega
 case rel=>exact⟨(wrap64 (yg+(ji23))),(wrap64 (ym+(ji24))),(wrap64 (yb+1)),(by first|rfl|(simp;done)|(simp only[← hji23] <;> (first|rfl|simp))|(simp[*];done)),(by first|rfl|(simp;done)|(simp only[← hji24] <;> (first|rfl|simp))|(simp[*];done)),(pF),H',⟨pO2 HJ2 HK2⟩,⟨pK za.out⟩,⟨qB1 HB ze⟩⟩
def fdd.f (k:Nat) (yc:Int)(ya yb:List Int):Option (Bool):=(fcx.f k yc ya yb 64).bind fun za=>(some za)
theorem fdd.calls (k:Nat) (yc:Int)(yd:Option Addr)(ye:Nat)(ya:List Int)(yf:Option Addr)(yg:Nat)(yb:List Int)(r:Bool)(w:World)(yh:Kd.C (Kd.int .i64) w yd ya.length ya)(yi:ya.length≤ye)(yj:Kd.C (Kd.int .i64) w yf yb.length yb)(yk:yb.length≤yg)(h:fdd.f k yc ya yb=some r) :
  Calls Try.prog 49 #[.agg #[.int .i64 yc,.slice yd ya.length ye,.slice yf yb.length yg]] w fun e w'=>e=.returned (.bool r)∧Below w.heap.size w w':=by
 have hu44:=Try.underlying44
 have yl:=aM yh
 have ym:=aM yi
 clear yh yi
 have yn:=aM yj
 have yo:=aM yk
 clear yj yk
 have HB:=aM (Below.refl w.heap.size w)
 have H:((fcx.f k yc ya yb 64).bind fun za=>(some za))=some r:=h
 clear h
 replace H:=oB H
 obtain⟨za,A20,H⟩:=H
 try dsimp only at H
 have A2:=aM A20
 clear A20
 obtain rfl:=Option.some.inj H
 go_enter Try.func49,Try.ntmps49
 go_wp2_with (first|((with_reducible refine gD 1 rfl ?_);refine bX 1 44 #[.int .i64 yc,.slice yd ya.length ye,.slice yf yb.length yg] ?_;intro gb109 hg w3 hbox hb;have zb:=aM (hbox);have GW109:=gE (w:=w) hg (qB HB);have zc:=GW109;replace HB:=bS (qB HB) hb;clear hb hbox hg;have hcz4:=blk3 zb.out)|((with_reducible refine gC 74 rfl ?_);refine gL 4 Try.func74 #[.agg #[.int .i64 yc,.slice yd ya.length ye,.slice yf yb.length yg],.int .i64 64] ?_;(with_reducible refine(fcx.calls k yc _ _ ya _ _ yb 64 za _ ?s1 ym.out ?s3 yo.out A2.out).mono ?_);(case s1=>exact sC yl HB);(case s3=>exact sC yn HB);rintro e w5 ⟨rfl,hb⟩;refine⟨_,rfl,?_⟩;replace zb:=bK zb hb;replace HB:=bS (qB1 HB zc) hb))
 go_ret
 exact⟨pE,qB1 HB zc⟩
def fco.l0:Nat→List Int→List Int→Int→Int→Option (Bool)
 | 0,_,_,_,_=>none
 | k+1,x0,x1,x12,x13=>if x13<x12 then(if 0≤x13 then(if x13<(x0.length:Int)then(if x13<(x1.length:Int)then(if(rd x0 x13)=(rd x1 x13)then(fco.l0 k x0 x1 x12 (wrap64 (x13+1)))else(some false))else(none))else(none))else(none))else(some true)
def fco.f (k:Nat) (l0 l1:List Int):Option (Bool):=if(l0.length:Int)=(l1.length:Int)then(fco.l0 k l0 l1 (l0.length:Int) 0)else(some false)
theorem fco.calls (k:Nat)(A0:Option Addr)(c0:Nat)(l0:List Int)(A1:Option Addr)(c1:Nat)(l1:List Int)(r:Bool)(w:World)(hr0:Kd.C (Kd.int .i64) w A0 l0.length l0)(hc0:l0.length≤c0)(hr1:Kd.C (Kd.int .i64) w A1 l1.length l1)(hc1:l1.length≤c1)(h:fco.f k l0 l1=some r) :
  Calls Try.prog 97 #[.slice A0 l0.length c0,.slice A1 l1.length c1] w fun e w'=>e=.returned (.bool r)∧Drawn0 w w':=by
 have HR0:=aM hr0
 have HC0:=aM hc0
 clear hr0 hc0
 have HR1:=aM hr1
 have HC1:=aM hc1
 clear hr1 hc1
 have H:(if(l0.length:Int)=(l1.length:Int)then(fco.l0 k l0 l1 (l0.length:Int) 0)else(some false))=some r:=h
 clear h
 by_cases c3:(l0.length:Int)=(l1.length:Int)
 rotate_left
 ·rw[iN c3] at H
  have za:=bF c3
  have zb:=nT c3
  have zc:(l0.length==l1.length)=false:=by first|simpa using c3|(simp at c3 ⊢;omega)
  obtain rfl:=Option.some.inj H
  go_enter Try.func97,Try.ntmps97
  go_wp2
  repeat(go_quiet (fail);try go_wp2)
  go_ret
  exact⟨pF,pW⟩
 rw[ip c3] at H
 have za:=bT c3
 have zb:=nF c3
 have zc:(l0.length==l1.length)=true:=by first|simpa using c3|(simp at c3 ⊢;omega)
 clear c3
 have H':=aM H
 clear H
 go_enter Try.func97,Try.ntmps97
 go_wp2
 repeat(go_quiet (fail);try go_wp2)
 go_loopg [13] k (fun kq v13 w'=>∃ (ya:Int),v13=.int .i64 ya∧Aside0 (fco.l0 kq l0 l1 (l0.length:Int) ya=some r)∧Aside0 (kq≤k)∧Drawn0 w w')
 case atStart=>exact⟨(0),(pF),H',⟨Nat.le_refl _⟩,pW⟩
 clear H'
 try clear c1
 try clear za
 try clear zb
 try clear zc
 obtain⟨ya,rfl,HA,HK1,⟨m1,rfl⟩⟩:=hrel
 cases gk with
 | zero=>exact absurd HA.out (by simp[fco.l0])
 | succ k1=>?_
 have H:=HA.out
 clear HA
 simp only[fco.l0] at H
 by_cases c4:ya<(l0.length:Int)
 rotate_left
 ·rw[iN c4] at H
  have yf:=dF c4
  clear c4
  obtain rfl:=Option.some.inj H
  go_wp2
  repeat(go_quiet (fail);try go_wp2)
  go_ret
  exact⟨pF,pW⟩
 rw[ip c4] at H
 have yf:=dT c4
 clear c4
 by_cases c5:0≤ya
 rotate_left
 ·rw[iN c5] at H
  cases H
 rw[ip c5] at H
 have c5b0:=dT c5
 clear c5
 by_cases c6:ya<(l0.length:Int)
 rotate_left
 ·rw[iN c6] at H
  cases H
 rw[ip c6] at H
 have c6b0:=dT c6
 clear c6
 by_cases c7:ya<(l1.length:Int)
 rotate_left
 ·rw[iN c7] at H
  cases H
 rw[ip c7] at H
 have c7b0:=dT c7
 clear c7
 by_cases c8:(rd l0 ya)=(rd l1 ya)
 rotate_left
 ·rw[iN c8] at H
  have yg:=bF c8
  have yh:=nT c8
  obtain rfl:=Option.some.inj H
  obtain⟨yd,⟨⟩,yb,yi,yj⟩:=zI HR0.out ya
  obtain⟨ye,⟨⟩,yc,yk,yl⟩:=zI HR1.out ya
  go_wp2
  repeat(go_quiet (fail);try go_wp2)
  go_ret
  exact⟨pF,pW⟩
 rw[ip c8] at H
 have yg:=bT c8
 have yh:=nF c8
 clear c8
 have H':=aM H
 clear H
 obtain⟨yd,⟨⟩,yb,yi,yj⟩:=zI HR0.out ya
 obtain⟨ye,⟨⟩,yc,yk,yl⟩:=zI HR1.out ya
 go_wp2
 repeat(go_quiet (fail);try go_wp2)
 go_roundg k1
 case measure=>have:=HK1.out;omega
 case rel=>exact⟨(wrap64 (ya+1)),(pF),H',⟨pO1 HK1⟩,pW⟩
def fck.f (k:Nat) (l0 l1:List Int):Option (Bool):=(fco.f k l0 l1).bind fun za=>(some za)
theorem fck.calls (k:Nat)(A0:Option Addr)(c0:Nat)(l0:List Int)(A1:Option Addr)(c1:Nat)(l1:List Int)(r:Bool)(w:World)(hr0:Kd.C (Kd.int .i64) w A0 l0.length l0)(hc0:l0.length≤c0)(hr1:Kd.C (Kd.int .i64) w A1 l1.length l1)(hc1:l1.length≤c1)(h:fck.f k l0 l1=some r) :
  Calls Try.prog 90 #[.slice A0 l0.length c0,.slice A1 l1.length c1] w fun e w'=>e=.returned (.bool r)∧Drawn0 w w':=by
 have HR0:=aM hr0
 have HC0:=aM hc0
 clear hr0 hc0
 have HR1:=aM hr1
 have HC1:=aM hc1
 clear hr1 hc1
 have H:((fco.f k l0 l1).bind fun za=>(some za))=some r:=h
 clear h
 replace H:=oB H
 obtain⟨za,A30,H⟩:=H
 try dsimp only at H
 have A3:=aM A30
 clear A30
 obtain rfl:=Option.some.inj H
 go_enter Try.func90,Try.ntmps90
 go_wp2_with (first|((with_reducible refine gC 97 rfl ?_);refine gL 7 Try.func97 #[.slice A0 l0.length c0,.slice A1 l1.length c1] ?_;(with_reducible refine(fco.calls k _ _ l0 _ _ l1 za _ ?s1 HC0.out ?s3 HC1.out A3.out).mono ?_);(case s1=>exact pC HR0.out);(case s3=>exact pC HR1.out);rintro e w' ⟨rfl,⟨nd,rfl⟩⟩;refine⟨_,rfl,?_⟩))
 go_ret
 exact⟨pF,pW⟩
def fcq.f (k:Nat) (l0 l1:List Int):Option (Bool):=(fcr.f k l0 l1).bind fun bt212=>(if bt212.2=0 then((fck.f k bt212.1 l1).bind fun zc=>(some zc))else(some false))
theorem fcq.calls (k:Nat)(A0:Option Addr)(c0:Nat)(l0:List Int)(A1:Option Addr)(c1:Nat)(l1:List Int)(r:Bool)(w:World)(hr0:Kd.C (Kd.int .i64) w A0 l0.length l0)(hc0:l0.length≤c0)(hr1:Kd.C (Kd.int .i64) w A1 l1.length l1)(hc1:l1.length≤c1)(h:fcq.f k l0 l1=some r) :
  Calls Try.prog 73 #[.slice A0 l0.length c0,.slice A1 l1.length c1] w fun e w'=>e=.returned (.bool r)∧Below w.heap.size w w':=by
 have HR0:=aM hr0
 have HC0:=aM hc0
 clear hr0 hc0
 have HR1:=aM hr1
 have HC1:=aM hc1
 clear hr1 hc1
 have HB:=aM (Below.refl w.heap.size w)
 have H:((fcr.f k l0 l1).bind fun bt212=>(if bt212.2=0 then((fck.f k bt212.1 l1).bind fun zc=>(some zc))else(some false)))=some r:=h
 clear h
 replace H:=oB H
 obtain⟨⟨zd,za⟩,A30,H⟩:=H
 try dsimp only at H
 have A3:=aM A30
 clear A30
 by_cases c4:za=0
 rotate_left
 ·rw[iN c4] at H
  have ya:=bF c4
  have yb:=nT c4
  obtain rfl:=Option.some.inj H
  go_enter Try.func73,Try.ntmps73
  go_wp2_with (first|((with_reducible refine gC 75 rfl ?_);refine gL 10 Try.func75 #[.slice A0 l0.length c0,.slice A1 l1.length c1] ?_;(with_reducible refine(fcr.calls k (fun k_=>k_<w.heap.size) _ _ l0 (fun k_=>k_<w.heap.size) _ _ l1 zd za _ ?s1 ?s2 A3.out).mono ?_);(case s1=>exact Kd.V_mk HC0.out (Kd.F_below (Kd.C_F (Kd.heap_int .i64) HR0.out) (qB HB)));(case s2=>exact Kd.V_mk HC1.out (Kd.F_below (Kd.C_F (Kd.heap_int .i64) HR1.out) (qB HB)));rintro e w8 ⟨v213,rfl,ho0,hb⟩;refine⟨_,rfl,?_⟩;have zb:=aM (Kd.R_lower (Kd.R_mono (ok':=fun k_=>True) ho0 (fun _ hk_=>trivial)) (below_size (qB HB)));replace HB:=bS (qB HB) hb))
  go_ret
  exact⟨pE,qB HB⟩
 rw[ip c4] at H
 have ya:=bT c4
 have yb:=nF c4
 clear c4
 replace H:=oB H
 obtain⟨zc,A50,H⟩:=H
 try dsimp only at H
 have A5:=aM A50
 clear A50
 obtain rfl:=Option.some.inj H
 go_enter Try.func73,Try.ntmps73
 go_wp2_with (first|((with_reducible refine gC 75 rfl ?_);refine gL 10 Try.func75 #[.slice A0 l0.length c0,.slice A1 l1.length c1] ?_;(with_reducible refine(fcr.calls k (fun k_=>k_<w.heap.size) _ _ l0 (fun k_=>k_<w.heap.size) _ _ l1 zd za _ ?s1 ?s2 A3.out).mono ?_);(case s1=>exact Kd.V_mk HC0.out (Kd.F_below (Kd.C_F (Kd.heap_int .i64) HR0.out) (qB HB)));(case s2=>exact Kd.V_mk HC1.out (Kd.F_below (Kd.C_F (Kd.heap_int .i64) HR1.out) (qB HB)));rintro e w6 ⟨v213,rfl,ho0,hb⟩;refine⟨_,rfl,?_⟩;have zb:=aM (Kd.R_lower (Kd.R_mono (ok':=fun k_=>True) ho0 (fun _ hk_=>trivial)) (below_size (qB HB)));replace HB:=bS (qB HB) hb;obtain⟨Ao7,co7,eo7⟩:=Kd.R_slice zb.out;subst eo7)|(go_at_call 90;(with_reducible refine(fck.calls k _ _ zd _ _ l1 zc _ ?s1 ?s2 ?s3 HC1.out A5.out).mono ?_);(case s1=>exact sR zb);(case s2=>exact sL zb);(case s3=>exact sC HR1 HB);rintro e w' ⟨rfl,⟨nd,rfl⟩⟩))
 go_ret
 exact⟨pE,qB HB⟩
def fct.l0:Nat→Int→List Int→Int→Int→Int→List Int→List Int→Int→List Int→List Int→Option (Int×List Int×List Int×Int)
 | 0,_,_,_,_,_,_,_,_,_,_=>none
 | k+1,x8,x42,x43,x44,zag,zah,z3,z9,zaa,z4=>if x44<x43 then(if 0≤x44 then(if x44<(x42.length:Int)then(if(rd x42 x44) > 1 then(if x44<(z3.length:Int)then(if 0≤(wrap64 (x8+x44))then(if(wrap64 (x8+x44))<(z4.length:Int)then(fct.l0 k x8 x42 x43 (wrap64 (x44+1)) zag zah z3 z9 zaa (z4.set ((wrap64 (x8+x44)):Int).toNat (rd z3 x44)))else(none))else(none))else(none))else(fct.l0 k x8 x42 x43 (wrap64 (x44+1)) zag zah z3 z9 zaa z4))else(none))else(none))else(some (z9,zaa,z4,0))
def fct.f (k:Nat) (yb:Int)(ya yc l1:List Int):Option (Int×List Int×List Int×Int):=(fdd.f k yb ya yc).bind fun zaj=>(if zaj=true then((fcg.f l1).bind fun z0=>(if z0=0 then((fcq.f k ya l1).bind fun zak=>(if zak=true then((fcn.f l1).bind fun zw=>(if 0≤(l1.length:Int)then(if((l1.length:Int):Int).toNat≤35184372088832 then(fct.l0 k (wrap64 ((l1.length:Int)-(ya.length:Int))) ya (ya.length:Int) 0 yb ya yc yb zw (List.replicate ((l1.length:Int):Int).toNat 0))else(none))else(none)))else(some (0,([]:List Int),([]:List Int),8))))else(some (0,([]:List Int),([]:List Int),z0))))else(some (0,([]:List Int),([]:List Int),1)))
def fct.T8:TT:=(true,[([],[]),([0],[0]),([],[]),([2],[2]),([],[]),([4],[4]),([5,5],[5]),([1,3,6],[1,3,6]),([],[]),([8,7,3,0,1,2,3,4,5,6,7,8],[7,8])])
def fct.B8:List Nat:=[0,1,0,4,0,16,48,127,0,511]
theorem fct.tab8:rtab .any (opsOf Try.f46 8)=fct.T8:=by kernel_rfl
theorem fct.bits8:waitsOk fct.T8.2 fct.B8=true:=by kernel_rfl
def fct.T14:TT:=(true,[([],[]),([0],[0]),([],[]),([],[]),([2,3],[2,3]),([],[]),([5],[5]),([],[]),([6,7],[6,7]),([8],[8]),([1,4,0,1,2,3,4,5,6,7,8,9],[1,4]),([10,9,0,1,2,3,4,5,6,7,8,9],[9,10])])
def fct.B14:List Nat:=[0,1,0,0,12,0,32,0,224,480,1023,2047]
theorem fct.tab14:rtab .any (opsOf Try.f46 14)=fct.T14:=by kernel_rfl
theorem fct.bits14:waitsOk fct.T14.2 fct.B14=true:=by kernel_rfl
theorem fct.calls (k:Nat) (yb:Int)(ye:Option Addr)(yd:Nat)(ya:List Int)(yg:Option Addr)(yf:Nat)(yc:List Int)(A1:Option Addr)(c1:Nat)(l1:List Int)(r1:Int)(r2 r3:List Int)(r4:Int)(w:World)(ym:Kd.C (Kd.int .i64) w ye ya.length ya)(yn:ya.length≤yd)(yo:Kd.C (Kd.int .i64) w yg yc.length yc)(yp:yc.length≤yf)(hr1:Kd.C (Kd.int .i64) w A1 l1.length l1)(hc1:l1.length≤c1)(h:fct.f k yb ya yc l1=some (r1,r2,r3,r4)) :
  Calls Try.prog 46 #[.agg #[.int .i64 yb,.slice ye ya.length yd,.slice yg yc.length yf],.slice A1 l1.length c1] w fun e w'=>∃ v1_ v2_:Value,e=.returned (.tuple #[.agg #[.int .i64 r1,v1_,v2_],.int .i64 r4])∧Kd.R (Kd.int .i64) 3 w' w.heap.size (fun k_=>some k_≠(v2_:Value).ownBlock) v1_ r2∧Kd.R (Kd.int .i64) 3 w' w.heap.size (fun k_=>some k_≠(v1_:Value).ownBlock) v2_ r3∧Below w.heap.size w w':=by
 have hu44:=Try.underlying44
 have z1:=aM ym
 have z8:=aM yn
 clear ym yn
 have zac:=aM yo
 have zai:=aM yp
 clear yo yp
 have HR1:=aM hr1
 have HC1:=aM hc1
 clear hr1 hc1
 have HB:=aM (Below.refl w.heap.size w)
 have H:((fdd.f k yb ya yc).bind fun zaj=>(if zaj=true then((fcg.f l1).bind fun z0=>(if z0=0 then((fcq.f k ya l1).bind fun zak=>(if zak=true then((fcn.f l1).bind fun zw=>(if 0≤(l1.length:Int)then(if((l1.length:Int):Int).toNat≤35184372088832 then(fct.l0 k (wrap64 ((l1.length:Int)-(ya.length:Int))) ya (ya.length:Int) 0 yb ya yc yb zw (List.replicate ((l1.length:Int):Int).toNat 0))else(none))else(none)))else(some (0,([]:List Int),([]:List Int),8))))else(some (0,([]:List Int),([]:List Int),z0))))else(some (0,([]:List Int),([]:List Int),1))))=some (r1,r2,r3,r4):=h
 clear h
 replace H:=oB H
 obtain⟨zaj,A30,H⟩:=H
 try dsimp only at H
 have A3:=aM A30
 clear A30
 by_cases c4:zaj=true
 rotate_left
 ·replace c4:=Bool.eq_false_iff.mpr c4
  subst c4
  rw[iN fT] at H
  replace H:=oi4 H
  obtain⟨rfl,rfl,rfl,rfl⟩:=H
  go_enter Try.func46,Try.ntmps46
  go_wp2_with (first|((with_reducible refine gD 2 rfl ?_);refine bX 2 44 #[.int .i64 yb,.slice ye ya.length yd,.slice yg yc.length yf] ?_;intro zc hg w66 hbox hb;have za:=aM (hbox);have z5:=gE (w:=w) hg (qB HB);have ze:=z5;replace HB:=bS (qB HB) hb;clear hb hbox hg)|((with_reducible refine gD 4 rfl ?_);refine bX 4 44 #[.int .i64 0,.slice none 0 0,.slice none 0 0] ?_;intro zl hg w67 hbox hb;have zb:=aM (hbox);have z6:=gE (w:=w) hg (qB1 HB ze);have zg:=z6;replace HB:=bS (qB1 HB ze) hb;have zr:=nL hg za;have zs:=nG hg za;replace za:=bK za hb;clear hb hbox hg;have hnb68:=zr.out;have hnc68:=zs.out;have hcz69:=blk3 za.out)|((with_reducible refine gC 49 rfl ?_);refine gL 12 Try.func49 #[.agg #[.int .i64 yb,.slice ye ya.length yd,.slice yg yc.length yf]] ?_;(with_reducible refine(fdd.calls k yb _ _ ya _ _ yc false _ ?s1 z8.out ?s3 zai.out A3.out).mono ?_);(case s1=>exact sC z1 HB);(case s3=>exact sC zac HB);rintro e w70 ⟨rfl,hb⟩;refine⟨_,rfl,?_⟩;replace za:=bK za hb;replace zb:=bK zb hb;replace HB:=bS (qB2 HB ze zg) hb;have hcz71:=blk3 zb.out))
  refine bodyPost_ret (results_ct rfl _ _ zl 44 #[.int .i64 0,.slice none 0 0,.slice none 0 0] (0,0) _ rfl (by exact P3 zb) Try.underlying44 rfl (by kernel_rfl)) rfl ?_
  exact⟨_,_,pE,pN,pN,qB2 HB ze zg⟩
 subst c4
 rw[ip rfl] at H
 replace H:=oB H
 obtain⟨z0,A50,H⟩:=H
 try dsimp only at H
 have A5:=aM A50
 clear A50
 by_cases c6:z0=0
 rotate_left
 ·rw[iN c6] at H
  have yw:=bF c6
  have yx:=nT c6
  replace H:=oi4 H
  obtain⟨rfl,rfl,rfl,rfl⟩:=H
  go_enter Try.func46,Try.ntmps46
  go_wp2_with (first|((with_reducible refine gD 2 rfl ?_);refine bX 2 44 #[.int .i64 yb,.slice ye ya.length yd,.slice yg yc.length yf] ?_;intro zc hg w60 hbox hb;have za:=aM (hbox);have z5:=gE (w:=w) hg (qB HB);have ze:=z5;replace HB:=bS (qB HB) hb;clear hb hbox hg)|((with_reducible refine gD 4 rfl ?_);refine bX 4 44 #[.int .i64 0,.slice none 0 0,.slice none 0 0] ?_;intro zl hg w61 hbox hb;have zb:=aM (hbox);have z6:=gE (w:=w) hg (qB1 HB ze);have zg:=z6;replace HB:=bS (qB1 HB ze) hb;have zr:=nL hg za;have zs:=nG hg za;replace za:=bK za hb;clear hb hbox hg;have hnb62:=zr.out;have hnc62:=zs.out;have hcz63:=blk3 za.out)|((with_reducible refine gC 49 rfl ?_);refine gL 12 Try.func49 #[.agg #[.int .i64 yb,.slice ye ya.length yd,.slice yg yc.length yf]] ?_;(with_reducible refine(fdd.calls k yb _ _ ya _ _ yc true _ ?s1 z8.out ?s3 zai.out A3.out).mono ?_);(case s1=>exact sC z1 HB);(case s3=>exact sC zac HB);rintro e w64 ⟨rfl,hb⟩;refine⟨_,rfl,?_⟩;replace za:=bK za hb;replace zb:=bK zb hb;replace HB:=bS (qB2 HB ze zg) hb)|((with_reducible refine gC 31 rfl ?_);refine gL 16 Try.func31 #[.slice A1 l1.length c1] ?_;(with_reducible refine(fcg.calls _ _ l1 z0 _ ?s1 HC1.out A5.out).mono ?_);(case s1=>exact sC HR1 HB);rintro e w' ⟨rfl,⟨nd,rfl⟩⟩;refine⟨_,rfl,?_⟩;(try (rw[drewN_self w64];generalize hq_:World.drewN w64 _=w64;have n0_:Aside0 (w64.heap[zc]?=some (.cells #[.int .i64 yb,.slice ye ya.length yd,.slice yg yc.length yf] 44 (0,0))):=⟨by rw[← hq_];exact(pK za.out)⟩;have n1_:Aside0 (w64.heap[zl]?=some (.cells #[.int .i64 0,.slice none 0 0,.slice none 0 0] 44 (0,0))):=⟨by rw[← hq_];exact(pK zb.out)⟩;have n2_:Aside0 (Below w.heap.size w w64):=⟨by rw[← hq_];exact(qB2 HB ze zg)⟩;clear za zb HB hq_;have za:=n0_;have zb:=n1_;have HB:=n2_;clear n0_ n1_ n2_));have hcz65:=blk3 zb.out))
  refine bodyPost_ret (results_ct rfl _ _ zl 44 #[.int .i64 0,.slice none 0 0,.slice none 0 0] (0,0) _ rfl (by exact P3 zb) Try.underlying44 rfl (by kernel_rfl)) rfl ?_
  exact⟨_,_,pE,pN,pN,qB2 HB ze zg⟩
 rw[ip c6] at H
 have yw:=bT c6
 have yx:=nF c6
 clear c6
 replace H:=oB H
 obtain⟨zak,A70,H⟩:=H
 try dsimp only at H
 have A7:=aM A70
 clear A70
 by_cases c8:zak=true
 rotate_left
 ·replace c8:=Bool.eq_false_iff.mpr c8
  subst c8
  rw[iN fT] at H
  replace H:=oi4 H
  obtain⟨rfl,rfl,rfl,rfl⟩:=H
  go_enter Try.func46,Try.ntmps46
  go_wp2_with (first|((with_reducible refine gD 2 rfl ?_);refine bX 2 44 #[.int .i64 yb,.slice ye ya.length yd,.slice yg yc.length yf] ?_;intro zc hg w52 hbox hb;have za:=aM (hbox);have z5:=gE (w:=w) hg (qB HB);have ze:=z5;replace HB:=bS (qB HB) hb;clear hb hbox hg)|((with_reducible refine gD 4 rfl ?_);refine bX 4 44 #[.int .i64 0,.slice none 0 0,.slice none 0 0] ?_;intro zl hg w53 hbox hb;have zb:=aM (hbox);have z6:=gE (w:=w) hg (qB1 HB ze);have zg:=z6;replace HB:=bS (qB1 HB ze) hb;have zr:=nL hg za;have zs:=nG hg za;replace za:=bK za hb;clear hb hbox hg;have hnb54:=zr.out;have hnc54:=zs.out;have hcz55:=blk3 za.out)|((with_reducible refine gC 49 rfl ?_);refine gL 12 Try.func49 #[.agg #[.int .i64 yb,.slice ye ya.length yd,.slice yg yc.length yf]] ?_;(with_reducible refine(fdd.calls k yb _ _ ya _ _ yc true _ ?s1 z8.out ?s3 zai.out A3.out).mono ?_);(case s1=>exact sC z1 HB);(case s3=>exact sC zac HB);rintro e w56 ⟨rfl,hb⟩;refine⟨_,rfl,?_⟩;replace za:=bK za hb;replace zb:=bK zb hb;replace HB:=bS (qB2 HB ze zg) hb)|((with_reducible refine gC 31 rfl ?_);refine gL 16 Try.func31 #[.slice A1 l1.length c1] ?_;(with_reducible refine(fcg.calls _ _ l1 z0 _ ?s1 HC1.out A5.out).mono ?_);(case s1=>exact sC HR1 HB);rintro e w' ⟨rfl,⟨nd,rfl⟩⟩;refine⟨_,rfl,?_⟩;(try (rw[drewN_self w56];generalize hq_:World.drewN w56 _=w56;have n0_:Aside0 (w56.heap[zc]?=some (.cells #[.int .i64 yb,.slice ye ya.length yd,.slice yg yc.length yf] 44 (0,0))):=⟨by rw[← hq_];exact(pK za.out)⟩;have n1_:Aside0 (w56.heap[zl]?=some (.cells #[.int .i64 0,.slice none 0 0,.slice none 0 0] 44 (0,0))):=⟨by rw[← hq_];exact(pK zb.out)⟩;have n2_:Aside0 (Below w.heap.size w w56):=⟨by rw[← hq_];exact(qB2 HB ze zg)⟩;clear za zb HB hq_;have za:=n0_;have zb:=n1_;have HB:=n2_;clear n0_ n1_ n2_));have hcz57:=blk3 za.out)|((with_reducible refine gC 73 rfl ?_);refine gL 24 Try.func73 #[.slice ye ya.length yd,.slice A1 l1.length c1] ?_;(with_reducible refine(fcq.calls k _ _ ya _ _ l1 false _ ?s1 z8.out ?s3 HC1.out A7.out).mono ?_);(case s1=>exact sC z1 HB);(case s3=>exact sC HR1 HB);rintro e w58 ⟨rfl,hb⟩;refine⟨_,rfl,?_⟩;replace za:=bK za hb;replace zb:=bK zb hb;replace HB:=bS (qB2 HB ze zg) hb;have hcz59:=blk3 zb.out))
  refine bodyPost_ret (results_ct rfl _ _ zl 44 #[.int .i64 0,.slice none 0 0,.slice none 0 0] (0,0) _ rfl (by exact P3 zb) Try.underlying44 rfl (by kernel_rfl)) rfl ?_
  exact⟨_,_,pE,pN,pN,qB2 HB ze zg⟩
 subst c8
 rw[ip rfl] at H
 replace H:=oB H
 obtain⟨zw,A90,H⟩:=H
 try dsimp only at H
 have A9:=aM A90
 clear A90
 by_cases c10:0≤(l1.length:Int)
 rotate_left
 ·rw[iN c10] at H
  cases H
 rw[ip c10] at H
 have c10b0:=eq_true c10
 have c10b1:=dT c10
 clear c10
 by_cases c11:((l1.length:Int):Int).toNat≤35184372088832
 rotate_left
 ·rw[iN c11] at H
  cases H
 rw[ip c11] at H
 have c11b0:=eq_true c11
 have c11b1:=dT c11
 clear c11
 obtain⟨zx,zal⟩:∃ y_:List Int,y_=(List.replicate ((l1.length:Int):Int).toNat 0):=⟨_,rfl⟩
 replace H:(fct.l0 k (wrap64 ((l1.length:Int)-(ya.length:Int))) ya (ya.length:Int) 0 yb ya yc yb zw zx)=some (r1,r2,r3,r4):=pH zal H
 have z2:=aM zal
 clear zal
 have H':=aM H
 clear H
 go_enter Try.func46,Try.ntmps46
 try go_wp2_with (first|((with_reducible refine gD 2 rfl ?_);refine bX 2 44 #[.int .i64 yb,.slice ye ya.length yd,.slice yg yc.length yf] ?_;intro zc hg w12 hbox hb;have za:=aM (hbox);have z5:=gE (w:=w) hg (qB HB);have ze:=z5;replace HB:=bS (qB HB) hb;clear hb hbox hg)|((with_reducible refine gD 4 rfl ?_);refine bX 4 44 #[.int .i64 0,.slice none 0 0,.slice none 0 0] ?_;intro zl hg w13 hbox hb;have zb:=aM (hbox);have z6:=gE (w:=w) hg (qB1 HB ze);have zg:=z6;replace HB:=bS (qB1 HB ze) hb;have zr:=nL hg za;have zs:=nG hg za;replace za:=bK za hb;clear hb hbox hg;have hnb14:=zr.out;have hnc14:=zs.out;have hcz15:=blk3 za.out)|((with_reducible refine gC 49 rfl ?_);refine gL 12 Try.func49 #[.agg #[.int .i64 yb,.slice ye ya.length yd,.slice yg yc.length yf]] ?_;(with_reducible refine(fdd.calls k yb _ _ ya _ _ yc true _ ?s1 z8.out ?s3 zai.out A3.out).mono ?_);(case s1=>exact sC z1 HB);(case s3=>exact sC zac HB);rintro e w16 ⟨rfl,hb⟩;refine⟨_,rfl,?_⟩;replace za:=bK za hb;replace zb:=bK zb hb;replace HB:=bS (qB2 HB ze zg) hb)|((with_reducible refine gC 31 rfl ?_);refine gL 16 Try.func31 #[.slice A1 l1.length c1] ?_;(with_reducible refine(fcg.calls _ _ l1 z0 _ ?s1 HC1.out A5.out).mono ?_);(case s1=>exact sC HR1 HB);rintro e w' ⟨rfl,⟨nd,rfl⟩⟩;refine⟨_,rfl,?_⟩;(try (rw[drewN_self w16];generalize hq_:World.drewN w16 _=w16;have n0_:Aside0 (w16.heap[zc]?=some (.cells #[.int .i64 yb,.slice ye ya.length yd,.slice yg yc.length yf] 44 (0,0))):=⟨by rw[← hq_];exact(pK za.out)⟩;have n1_:Aside0 (w16.heap[zl]?=some (.cells #[.int .i64 0,.slice none 0 0,.slice none 0 0] 44 (0,0))):=⟨by rw[← hq_];exact(pK zb.out)⟩;have n2_:Aside0 (Below w.heap.size w w16):=⟨by rw[← hq_];exact(qB2 HB ze zg)⟩;clear za zb HB hq_;have za:=n0_;have zb:=n1_;have HB:=n2_;clear n0_ n1_ n2_));have hcz17:=blk3 za.out)|((with_reducible refine gC 73 rfl ?_);refine gL 24 Try.func73 #[.slice ye ya.length yd,.slice A1 l1.length c1] ?_;(with_reducible refine(fcq.calls k _ _ ya _ _ l1 true _ ?s1 z8.out ?s3 HC1.out A7.out).mono ?_);(case s1=>exact sC z1 HB);(case s3=>exact sC HR1 HB);rintro e w18 ⟨rfl,hb⟩;refine⟨_,rfl,?_⟩;replace za:=bK za hb;replace zb:=bK zb hb;replace HB:=bS (qB2 HB ze zg) hb))
 replace za:=aM (blk_drew za.out)
 replace zb:=aM (blk_drew zb.out)
 replace HB:=aM (below_drew1 HB.out)
 refine sT 10 [] (fun w'=>w'.cell? ⟨zc,0,none⟩=some (.int .i64 yb)∧w'.cell? ⟨zc,1,none⟩=some (.slice ye ya.length yd)∧w'.cell? ⟨zc,2,none⟩=some (.slice yg yc.length yf)) fct.tab8 fct.bits8 (h3 za) (fun hHeld HT_ HW_=>?_)
 generalize w18.drew=w19 at za zb HB hHeld ⊢
 refine pQ 0 27 10 1 HT_ ?_
 refine pQ 2 29 10 5 HT_ ?_
 refine pQ 4 31 10 21 HT_ ?_
 refine pQ 5 32 10 53 HT_ ?_
 refine pU3 1 28 10 55 HT_ HW_ hHeld ?_
 refine join_ (σ:=Value×Value×Nat) 1 (bm 10 511) (fun s_=>[(30,s_.1),(33,s_.2.1),(7,.pointer (some ⟨s_.2.2,0,none⟩)),(34,.agg #[.int .i64 yb,s_.1,s_.2.1])]) (fun s_ w'=>(w'.cell? ⟨zc,0,none⟩=some (.int .i64 yb)∧w'.cell? ⟨zc,1,none⟩=some (.slice ye ya.length yd)∧w'.cell? ⟨zc,2,none⟩=some (.slice yg yc.length yf))∧(Kd.R (Kd.int .i64) 3 w' w.heap.size (fun k_=>some k_≠(s_.2.1:Value).ownBlock) s_.1 zw)∧(Kd.R (Kd.int .i64) 3 w' w.heap.size (fun k_=>some k_≠(s_.1:Value).ownBlock) s_.2.1 zx)∧(w'.heap[zc]?=some (.cells #[.int .i64 yb,.slice ye ya.length yd,.slice yg yc.length yf] 44 (0,0)))∧(w'.heap[zl]?=some (.cells #[.int .i64 0,.slice none 0 0,.slice none 0 0] 44 (0,0)))∧(w'.heap[s_.2.2]?=some (.cells #[.int .i64 0,.slice none 0 0,.slice none 0 0] 44 (0,0)))∧(w.heap.size≤s_.2.2)∧(w.heap.size≤s_.2.2)∧(zc≠s_.2.2)∧(s_.2.2≠zc)∧(zl≠s_.2.2)∧(s_.2.2≠zl)∧(Below w.heap.size w w')) ?_ ?_
 rotate_left
 ·intro zab
  refine join_ (σ:=Value×Value) 2 (bm 10 255) (fun s_=>[(30,s_.1),(33,s_.2),(34,.agg #[.int .i64 yb,s_.1,s_.2])]) (fun s_ w'=>(w'.cell? ⟨zc,0,none⟩=some (.int .i64 yb)∧w'.cell? ⟨zc,1,none⟩=some (.slice ye ya.length yd)∧w'.cell? ⟨zc,2,none⟩=some (.slice yg yc.length yf))∧(Kd.R (Kd.int .i64) 3 w' w.heap.size (fun k_=>some k_≠(s_.2:Value).ownBlock) s_.1 zw)∧(Kd.R (Kd.int .i64) 3 w' w.heap.size (fun k_=>some k_≠(s_.1:Value).ownBlock) s_.2 zx)∧(w'.heap[zc]?=some (.cells #[.int .i64 yb,.slice ye ya.length yd,.slice yg yc.length yf] 44 (0,0)))∧(w'.heap[zl]?=some (.cells #[.int .i64 0,.slice none 0 0,.slice none 0 0] 44 (0,0)))∧(Below w.heap.size w w')) ?_ ?_
  rotate_left
  ·intro zar
   refine join_ (σ:=Value×Nat) 3 (bm 10 319) (fun s_=>[(30,s_.1),(7,.pointer (some ⟨s_.2,0,none⟩))]) (fun s_ w'=>(w'.cell? ⟨zc,0,none⟩=some (.int .i64 yb)∧w'.cell? ⟨zc,1,none⟩=some (.slice ye ya.length yd)∧w'.cell? ⟨zc,2,none⟩=some (.slice yg yc.length yf))∧(Kd.R (Kd.int .i64) 3 w' w.heap.size (fun _=>True) s_.1 zw)∧(w'.heap[zc]?=some (.cells #[.int .i64 yb,.slice ye ya.length yd,.slice yg yc.length yf] 44 (0,0)))∧(w'.heap[zl]?=some (.cells #[.int .i64 0,.slice none 0 0,.slice none 0 0] 44 (0,0)))∧(w'.heap[s_.2]?=some (.cells #[.int .i64 0,.slice none 0 0,.slice none 0 0] 44 (0,0)))∧(w.heap.size≤s_.2)∧(w.heap.size≤s_.2)∧(zc≠s_.2)∧(s_.2≠zc)∧(zl≠s_.2)∧(s_.2≠zl)∧(Below w.heap.size w w')) ?_ ?_
   rotate_left
   ·intro zas
    refine join_ (σ:=Value×Nat) 3 (bm 10 375) (fun s_=>[(33,s_.1),(7,.pointer (some ⟨s_.2,0,none⟩))]) (fun s_ w'=>(w'.cell? ⟨zc,0,none⟩=some (.int .i64 yb)∧w'.cell? ⟨zc,1,none⟩=some (.slice ye ya.length yd)∧w'.cell? ⟨zc,2,none⟩=some (.slice yg yc.length yf))∧(Kd.R (Kd.int .i64) 3 w' w.heap.size (fun _=>True) s_.1 zx)∧(w'.heap[zc]?=some (.cells #[.int .i64 yb,.slice ye ya.length yd,.slice yg yc.length yf] 44 (0,0)))∧(w'.heap[zl]?=some (.cells #[.int .i64 0,.slice none 0 0,.slice none 0 0] 44 (0,0)))∧(w'.heap[s_.2]?=some (.cells #[.int .i64 0,.slice none 0 0,.slice none 0 0] 44 (0,0)))∧(w.heap.size≤s_.2)∧(w.heap.size≤s_.2)∧(zc≠s_.2)∧(s_.2≠zc)∧(zl≠s_.2)∧(s_.2≠zl)∧(Below w.heap.size w w')) ?_ ?_
    rotate_left
    ·intro zat
     refine join_ (σ:=Value) 4 (bm 10 63) (fun s_=>[(30,s_)]) (fun s_ w'=>(w'.cell? ⟨zc,0,none⟩=some (.int .i64 yb)∧w'.cell? ⟨zc,1,none⟩=some (.slice ye ya.length yd)∧w'.cell? ⟨zc,2,none⟩=some (.slice yg yc.length yf))∧(Kd.R (Kd.int .i64) 3 w' w.heap.size (fun _=>True) s_ zw)∧(w'.heap[zc]?=some (.cells #[.int .i64 yb,.slice ye ya.length yd,.slice yg yc.length yf] 44 (0,0)))∧(w'.heap[zl]?=some (.cells #[.int .i64 0,.slice none 0 0,.slice none 0 0] 44 (0,0)))∧(Below w.heap.size w w')) ?_ ?_
     rotate_left
     ·intro hJ3
      refine join_ (σ:=Value) 4 (bm 10 119) (fun s_=>[(33,s_)]) (fun s_ w'=>(w'.cell? ⟨zc,0,none⟩=some (.int .i64 yb)∧w'.cell? ⟨zc,1,none⟩=some (.slice ye ya.length yd)∧w'.cell? ⟨zc,2,none⟩=some (.slice yg yc.length yf))∧(Kd.R (Kd.int .i64) 3 w' w.heap.size (fun _=>True) s_ zx)∧(w'.heap[zc]?=some (.cells #[.int .i64 yb,.slice ye ya.length yd,.slice yg yc.length yf] 44 (0,0)))∧(w'.heap[zl]?=some (.cells #[.int .i64 0,.slice none 0 0,.slice none 0 0] 44 (0,0)))∧(Below w.heap.size w w')) ?_ ?_
      rotate_left
      ·intro hJ6
       refine join_ (σ:=Nat) 4 (bm 10 311) (fun s_=>[(7,.pointer (some ⟨s_,0,none⟩))]) (fun s_ w'=>(w'.cell? ⟨zc,0,none⟩=some (.int .i64 yb)∧w'.cell? ⟨zc,1,none⟩=some (.slice ye ya.length yd)∧w'.cell? ⟨zc,2,none⟩=some (.slice yg yc.length yf))∧(w'.heap[zc]?=some (.cells #[.int .i64 yb,.slice ye ya.length yd,.slice yg yc.length yf] 44 (0,0)))∧(w'.heap[zl]?=some (.cells #[.int .i64 0,.slice none 0 0,.slice none 0 0] 44 (0,0)))∧(w'.heap[s_]?=some (.cells #[.int .i64 0,.slice none 0 0,.slice none 0 0] 44 (0,0)))∧(w.heap.size≤s_)∧(w.heap.size≤s_)∧(zc≠s_)∧(s_≠zc)∧(zl≠s_)∧(s_≠zl)∧(Below w.heap.size w w')) ?_ ?_
       rotate_left
       ·intro hJ8
        refine three_ (i:=3) (j:=6) (k:=8) (Ni:=some 30) (Nj:=some 33) (Nk:=some 7) (bm 10 63) (bm 10 119) (bm 10 311) rfl rfl rfl rfl rfl rfl (three_of HT_.out (by kernel_rfl)) (by decide) (by decide) (by decide) (fun K hK=>?_) (fun K hK=>?_) (fun K hK=>?_)
        ·skip
         refine gS Try.func42 #[.slice A1 l1.length c1] ?_
         with_reducible refine(fcn.calls _ _ l1 zw _ ?s1 HC1.out A9.out).mono ?_
         (case s1=>exact sC HR1 HB)
         rintro e w20 ⟨zy,rfl,ho0,hb⟩
         refine⟨_,rfl,?_⟩
         have zn:=aM (Kd.R_lower ho0 (below_size (qB2 HB ze zg)))
         replace za:=bK za hb
         replace zb:=bK zb hb
         replace HB:=bS (qB2 HB ze zg) hb
         refine hK.out _ _ (h3 za) (fun hHeld=>?_)
         clear hK K
         refine nM 30 ?_
         exact norm_ (by first|(simp only[putAll,Act.put,sP];done)|(simp only[putAll,Act.put,sP];rfl)) (hJ3 (zy) _ ⟨hHeld,(pR zn.out),(pK za.out),(pK zb.out),(qB2 HB ze zg)⟩)
        ·skip
         refine Kd.R_make_step (Kd.int .i64) _ 3 (by rfl) (N:=33) rfl 22 _ _ rfl (l1.length:Int) rfl rfl Try.underlying22 (.int .i64 0) 8 info3 rfl (by decide) (by omega) 0 (ok:=fun _=>True) (okp:=fun _=>True) rfl (fun _ hk=>hk) trivial (of_decide_eq_true pD) (Nat.le_trans (Nat.mul_le_mul_right _ (of_decide_eq_true pD:(l1.length:Int).toNat≤35184372088832)) (by omega)) (Below.refl _ _) (Nat.le_refl _) ?_
         intro zz w20 ho21 hb hg_ hnew_
         clear hg_ hnew_
         (first|rw[← z2.out] at ho21|(simp only[Int.reduceToNat] at ho21;rw[← z2.out] at ho21))
         have zo:=aM (Kd.R_lower ho21 (below_size (qB2 HB ze zg)))
         replace za:=bK za hb
         replace zb:=bK zb hb
         replace HB:=bS (qB2 HB ze zg) hb
         clear hb ho21
         refine hK.out _ _ (h3 za) (fun hHeld=>?_)
         clear hK K
         refine nM 33 ?_
         exact norm_ (by first|(simp only[putAll,Act.put,sP];done)|(simp only[putAll,Act.put,sP];rfl)) (hJ6 (zz) _ ⟨hHeld,(pR zo.out),(pK za.out),(pK zb.out),(qB2 HB ze zg)⟩)
        ·skip
         refine box_step ?hg (N:=7) ?hd (cs:=#[.int .i64 0,.slice none 0 0,.slice none 0 0]) (t:=44) ?hr ?_;(case hd=>rfl);(case hg=>rfl);(case hr=>first|(go_simp;done)|(go_simp;rfl))
         intro zf hg w20 hbox hb
         have zk:=aM (hbox)
         have zu:=gE (w:=w) hg (qB2 HB ze zg)
         have zm:=zu
         replace HB:=bS (qB2 HB ze zg) hb
         have zd:=nL hg za
         have zh:=nG hg za
         replace za:=bK za hb
         have zi:=nL hg zb
         have zj:=nG hg zb
         replace zb:=bK zb hb
         clear hb hbox hg
         refine hK.out _ _ (h3 za) (fun hHeld=>?_)
         clear hK K
         refine nM 7 ?_
         exact norm_ (by first|(simp only[putAll,Act.put,sP];done)|(simp only[putAll,Act.put,sP];rfl)) (hJ8 (zf) _ ⟨hHeld,(pK za.out),(pK zb.out),(pK zk.out),zu.out,zm.out,zd.out,zh.out,zi.out,zj.out,(qB3 HB ze zg zm)⟩)
       ·skip
        rintro zf w21 ⟨hS_,h0_,h1_,h2_,h3_,h4_,h5_,h6_,h7_,h8_,h9_⟩
        have n0_:Aside0 (w21.heap[zc]?=some (.cells #[.int .i64 yb,.slice ye ya.length yd,.slice yg yc.length yf] 44 (0,0))):=⟨h0_⟩
        have n1_:Aside0 (w21.heap[zl]?=some (.cells #[.int .i64 0,.slice none 0 0,.slice none 0 0] 44 (0,0))):=⟨h1_⟩
        have n2_:Aside0 (w21.heap[zf]?=some (.cells #[.int .i64 0,.slice none 0 0,.slice none 0 0] 44 (0,0))):=⟨h2_⟩
        have n3_:Aside0 (w.heap.size≤zf):=⟨h3_⟩
        have n4_:Aside0 (w.heap.size≤zf):=⟨h4_⟩
        have n5_:Aside0 (zc≠zf):=⟨h5_⟩
        have n6_:Aside0 (zf≠zc):=⟨h6_⟩
        have n7_:Aside0 (zl≠zf):=⟨h7_⟩
        have n8_:Aside0 (zf≠zl):=⟨h8_⟩
        have n9_:Aside0 (Below w.heap.size w w21):=⟨h9_⟩
        clear za
        clear zb
        clear HB
        clear h0_ h1_ h2_ h3_ h4_ h5_ h6_ h7_ h8_ h9_
        have za:=n0_
        have zb:=n1_
        have zk:=n2_
        have zu:=n3_
        have zm:=n4_
        have zd:=n5_
        have zh:=n6_
        have zi:=n7_
        have zj:=n8_
        have HB:=n9_
        clear n0_ n1_ n2_ n3_ n4_ n5_ n6_ n7_ n8_ n9_
        have hHeld:w21.cell? ⟨zc,0,none⟩=some (.int .i64 yb)∧w21.cell? ⟨zc,1,none⟩=some (.slice ye ya.length yd)∧w21.cell? ⟨zc,2,none⟩=some (.slice yg yc.length yf):=hS_
        refine norm_ (a':=?_) ?_ ?_
        rotate_left
        ·simp only[putAll,Act.put,sP]
         rfl
        refine two_ (i:=3) (j:=6) (Ni:=some 30) (Nj:=some 33) (bm 10 319) (bm 10 375) rfl rfl rfl rfl (two_of HT_.out (by kernel_rfl)) (by decide) (by decide) (fun K hK=>?_) (fun K hK=>?_)
        ·skip
         refine gS Try.func42 #[.slice A1 l1.length c1] ?_
         with_reducible refine(fcn.calls _ _ l1 zw _ ?s1 HC1.out A9.out).mono ?_
         (case s1=>exact sC HR1 HB)
         rintro e w22 ⟨zy,rfl,ho0,hb⟩
         refine⟨_,rfl,?_⟩
         have zn:=aM (Kd.R_lower ho0 (below_size (qB3 HB ze zg zm)))
         replace za:=bK za hb
         replace zb:=bK zb hb
         replace zk:=bK zk hb
         replace HB:=bS (qB3 HB ze zg zm) hb
         refine hK.out _ _ (h3 za) (fun hHeld=>?_)
         clear hK K
         refine nM 30 ?_
         exact norm_ (by first|(simp only[putAll,Act.put,sP];done)|(simp only[putAll,Act.put,sP];rfl)) (zas (zy,zf) _ ⟨hHeld,(pR zn.out),(pK za.out),(pK zb.out),(pK zk.out),zu.out,zm.out,zd.out,zh.out,zi.out,zj.out,(qB3 HB ze zg zm)⟩)
        ·skip
         refine Kd.R_make_step (Kd.int .i64) _ 3 (by rfl) (N:=33) rfl 22 _ _ rfl (l1.length:Int) rfl rfl Try.underlying22 (.int .i64 0) 8 info3 rfl (by decide) (by omega) 0 (ok:=fun _=>True) (okp:=fun _=>True) rfl (fun _ hk=>hk) trivial (of_decide_eq_true pD) (Nat.le_trans (Nat.mul_le_mul_right _ (of_decide_eq_true pD:(l1.length:Int).toNat≤35184372088832)) (by omega)) (Below.refl _ _) (Nat.le_refl _) ?_
         intro zz w22 ho23 hb hg_ hnew_
         clear hg_ hnew_
         (first|rw[← z2.out] at ho23|(simp only[Int.reduceToNat] at ho23;rw[← z2.out] at ho23))
         have zo:=aM (Kd.R_lower ho23 (below_size (qB3 HB ze zg zm)))
         replace za:=bK za hb
         replace zb:=bK zb hb
         replace zk:=bK zk hb
         replace HB:=bS (qB3 HB ze zg zm) hb
         clear hb ho23
         refine hK.out _ _ (h3 za) (fun hHeld=>?_)
         clear hK K
         refine nM 33 ?_
         exact norm_ (by first|(simp only[putAll,Act.put,sP];done)|(simp only[putAll,Act.put,sP];rfl)) (zat (zz,zf) _ ⟨hHeld,(pR zo.out),(pK za.out),(pK zb.out),(pK zk.out),zu.out,zm.out,zd.out,zh.out,zi.out,zj.out,(qB3 HB ze zg zm)⟩)
      ·skip
       rintro zz w22 ⟨hS_,h0_,h1_,h2_,h3_⟩
       have n0_:Aside0 (Kd.R (Kd.int .i64) 3 w22 w.heap.size (fun _=>True) zz zx):=⟨h0_⟩
       have n1_:Aside0 (w22.heap[zc]?=some (.cells #[.int .i64 yb,.slice ye ya.length yd,.slice yg yc.length yf] 44 (0,0))):=⟨h1_⟩
       have n2_:Aside0 (w22.heap[zl]?=some (.cells #[.int .i64 0,.slice none 0 0,.slice none 0 0] 44 (0,0))):=⟨h2_⟩
       have n3_:Aside0 (Below w.heap.size w w22):=⟨h3_⟩
       clear za
       clear zb
       clear HB
       clear h0_ h1_ h2_ h3_
       have zo:=n0_
       have za:=n1_
       have zb:=n2_
       have HB:=n3_
       clear n0_ n1_ n2_ n3_
       have hHeld:w22.cell? ⟨zc,0,none⟩=some (.int .i64 yb)∧w22.cell? ⟨zc,1,none⟩=some (.slice ye ya.length yd)∧w22.cell? ⟨zc,2,none⟩=some (.slice yg yc.length yf):=hS_
       refine norm_ (a':=?_) ?_ ?_
       rotate_left
       ·simp only[putAll,Act.put,sP]
        rfl
       refine two_ (i:=3) (j:=8) (Ni:=some 30) (Nj:=some 7) (bm 10 127) (bm 10 375) rfl rfl rfl rfl (two_of HT_.out (by kernel_rfl)) (by decide) (by decide) (fun K hK=>?_) (fun K hK=>?_)
       ·skip
        refine gS Try.func42 #[.slice A1 l1.length c1] ?_
        with_reducible refine(fcn.calls _ _ l1 zw _ ?s1 HC1.out A9.out).mono ?_
        (case s1=>exact sC HR1 HB)
        rintro e w23 ⟨zy,rfl,ho0,hb⟩
        refine⟨_,rfl,?_⟩
        have zn:=aM (Kd.R_lower (Kd.R_new' ho0 (Kd.R_lt (pR zo.out))) (below_size (qB2 HB ze zg)))
        replace zo:=eR zo ho0 hb
        replace za:=bK za hb
        replace zb:=bK zb hb
        replace HB:=bS (qB2 HB ze zg) hb
        obtain⟨zau,zav,zam⟩:=Kd.R_slice zo.out
        (first|subst zam|(injection zam with f1_ f2_ f3_;have f4_:=f1_.symm;have f5_:=f3_.symm;clear f1_ f2_ f3_;subst f4_;subst f5_))
        obtain⟨zae,zaf,z7⟩:=Kd.R_slice zn.out
        (first|subst z7|(injection z7 with f1_ f2_ f3_;have f4_:=f1_.symm;have f5_:=f3_.symm;clear f1_ f2_ f3_;subst f4_;subst f5_))
        refine hK.out _ _ (h3 za) (fun hHeld=>?_)
        clear hK K
        refine nM 30 ?_
        refine pQ 7 34 10 255 HT_ ?_
        exact norm_ (by first|(simp only[putAll,Act.put,sP];done)|(simp only[putAll,Act.put,sP];rfl)) (zar (.slice zae zw.length zaf,.slice zau zx.length zav) _ ⟨hHeld,(by(with_reducible repeat(first|apply rA|apply rN|apply rD));exact Kd.R_mono zn.out (fun _ hk=>hk.2)),(by(with_reducible repeat(first|apply rA|apply rN|apply rD));exact Kd.R_mono zo.out (fun _ hk=>hk.2)),(pK za.out),(pK zb.out),(qB2 HB ze zg)⟩)
       ·skip
        refine box_step ?hg (N:=7) ?hd (cs:=#[.int .i64 0,.slice none 0 0,.slice none 0 0]) (t:=44) ?hr ?_;(case hd=>rfl);(case hg=>rfl);(case hr=>first|(go_simp;done)|(go_simp;rfl))
        intro zf hg w23 hbox hb
        replace zo:=bR zo hb
        have zk:=aM (hbox)
        have zu:=gE (w:=w) hg (qB2 HB ze zg)
        have zm:=zu
        replace HB:=bS (qB2 HB ze zg) hb
        have zd:=nL hg za
        have zh:=nG hg za
        replace za:=bK za hb
        have zi:=nL hg zb
        have zj:=nG hg zb
        replace zb:=bK zb hb
        clear hb hbox hg
        refine hK.out _ _ (h3 za) (fun hHeld=>?_)
        clear hK K
        refine nM 7 ?_
        exact norm_ (by first|(simp only[putAll,Act.put,sP];done)|(simp only[putAll,Act.put,sP];rfl)) (zat (zz,zf) _ ⟨hHeld,(pR zo.out),(pK za.out),(pK zb.out),(pK zk.out),zu.out,zm.out,zd.out,zh.out,zi.out,zj.out,(qB3 HB ze zg zm)⟩)
     ·skip
      rintro zy w21 ⟨hS_,h0_,h1_,h2_,h3_⟩
      have n0_:Aside0 (Kd.R (Kd.int .i64) 3 w21 w.heap.size (fun _=>True) zy zw):=⟨h0_⟩
      have n1_:Aside0 (w21.heap[zc]?=some (.cells #[.int .i64 yb,.slice ye ya.length yd,.slice yg yc.length yf] 44 (0,0))):=⟨h1_⟩
      have n2_:Aside0 (w21.heap[zl]?=some (.cells #[.int .i64 0,.slice none 0 0,.slice none 0 0] 44 (0,0))):=⟨h2_⟩
      have n3_:Aside0 (Below w.heap.size w w21):=⟨h3_⟩
      clear za
      clear zb
      clear HB
      clear h0_ h1_ h2_ h3_
      have zn:=n0_
      have za:=n1_
      have zb:=n2_
      have HB:=n3_
      clear n0_ n1_ n2_ n3_
      have hHeld:w21.cell? ⟨zc,0,none⟩=some (.int .i64 yb)∧w21.cell? ⟨zc,1,none⟩=some (.slice ye ya.length yd)∧w21.cell? ⟨zc,2,none⟩=some (.slice yg yc.length yf):=hS_
      refine norm_ (a':=?_) ?_ ?_
      rotate_left
      ·simp only[putAll,Act.put,sP]
       rfl
      refine two_ (i:=6) (j:=8) (Ni:=some 33) (Nj:=some 7) (bm 10 127) (bm 10 319) rfl rfl rfl rfl (two_of HT_.out (by kernel_rfl)) (by decide) (by decide) (fun K hK=>?_) (fun K hK=>?_)
      ·skip
       refine Kd.R_make_step (Kd.int .i64) _ 3 (by rfl) (N:=33) rfl 22 _ _ rfl (l1.length:Int) rfl rfl Try.underlying22 (.int .i64 0) 8 info3 rfl (by decide) (by omega) 0 (ok:=fun _=>True) (okp:=fun _=>True) rfl (fun _ hk=>hk) trivial (of_decide_eq_true pD) (Nat.le_trans (Nat.mul_le_mul_right _ (of_decide_eq_true pD:(l1.length:Int).toNat≤35184372088832)) (by omega)) (Below.refl _ _) (Nat.le_refl _) ?_
       intro zz w22 ho23 hb hg_ hnew_
       clear hg_ hnew_
       (first|rw[← z2.out] at ho23|(simp only[Int.reduceToNat] at ho23;rw[← z2.out] at ho23))
       have zo:=aM (Kd.R_lower (Kd.R_new' ho23 (Kd.R_lt (pR zn.out))) (below_size (qB2 HB ze zg)))
       replace zn:=eR zn ho23 hb
       replace za:=bK za hb
       replace zb:=bK zb hb
       replace HB:=bS (qB2 HB ze zg) hb
       clear hb ho23
       obtain⟨zau,zav,zam⟩:=Kd.R_slice zo.out
       (first|subst zam|(injection zam with f1_ f2_ f3_;have f4_:=f1_.symm;have f5_:=f3_.symm;clear f1_ f2_ f3_;subst f4_;subst f5_))
       obtain⟨zae,zaf,z7⟩:=Kd.R_slice zn.out
       (first|subst z7|(injection z7 with f1_ f2_ f3_;have f4_:=f1_.symm;have f5_:=f3_.symm;clear f1_ f2_ f3_;subst f4_;subst f5_))
       refine hK.out _ _ (h3 za) (fun hHeld=>?_)
       clear hK K
       refine nM 33 ?_
       refine pQ 7 34 10 255 HT_ ?_
       exact norm_ (by first|(simp only[putAll,Act.put,sP];done)|(simp only[putAll,Act.put,sP];rfl)) (zar (.slice zae zw.length zaf,.slice zau zx.length zav) _ ⟨hHeld,(by(with_reducible repeat(first|apply rA|apply rN|apply rD));exact Kd.R_mono zn.out (fun _ hk=>hk.2)),(by(with_reducible repeat(first|apply rA|apply rN|apply rD));exact Kd.R_mono zo.out (fun _ hk=>hk.2)),(pK za.out),(pK zb.out),(qB2 HB ze zg)⟩)
      ·skip
       refine box_step ?hg (N:=7) ?hd (cs:=#[.int .i64 0,.slice none 0 0,.slice none 0 0]) (t:=44) ?hr ?_;(case hd=>rfl);(case hg=>rfl);(case hr=>first|(go_simp;done)|(go_simp;rfl))
       intro zf hg w22 hbox hb
       replace zn:=bR zn hb
       have zk:=aM (hbox)
       have zu:=gE (w:=w) hg (qB2 HB ze zg)
       have zm:=zu
       replace HB:=bS (qB2 HB ze zg) hb
       have zd:=nL hg za
       have zh:=nG hg za
       replace za:=bK za hb
       have zi:=nL hg zb
       have zj:=nG hg zb
       replace zb:=bK zb hb
       clear hb hbox hg
       refine hK.out _ _ (h3 za) (fun hHeld=>?_)
       clear hK K
       refine nM 7 ?_
       exact norm_ (by first|(simp only[putAll,Act.put,sP];done)|(simp only[putAll,Act.put,sP];rfl)) (zas (zy,zf) _ ⟨hHeld,(pR zn.out),(pK za.out),(pK zb.out),(pK zk.out),zu.out,zm.out,zd.out,zh.out,zi.out,zj.out,(qB3 HB ze zg zm)⟩)
    ·skip
     rintro⟨zz,zf⟩ w23 ⟨hS_,h0_,h1_,h2_,h3_,h4_,h5_,h6_,h7_,h8_,h9_,h10_⟩
     have n0_:Aside0 (Kd.R (Kd.int .i64) 3 w23 w.heap.size (fun _=>True) zz zx):=⟨h0_⟩
     have n1_:Aside0 (w23.heap[zc]?=some (.cells #[.int .i64 yb,.slice ye ya.length yd,.slice yg yc.length yf] 44 (0,0))):=⟨h1_⟩
     have n2_:Aside0 (w23.heap[zl]?=some (.cells #[.int .i64 0,.slice none 0 0,.slice none 0 0] 44 (0,0))):=⟨h2_⟩
     have n3_:Aside0 (w23.heap[zf]?=some (.cells #[.int .i64 0,.slice none 0 0,.slice none 0 0] 44 (0,0))):=⟨h3_⟩
     have n4_:Aside0 (w.heap.size≤zf):=⟨h4_⟩
     have n5_:Aside0 (w.heap.size≤zf):=⟨h5_⟩
     have n6_:Aside0 (zc≠zf):=⟨h6_⟩
     have n7_:Aside0 (zf≠zc):=⟨h7_⟩
     have n8_:Aside0 (zl≠zf):=⟨h8_⟩
     have n9_:Aside0 (zf≠zl):=⟨h9_⟩
     have n10_:Aside0 (Below w.heap.size w w23):=⟨h10_⟩
     clear za
     clear zb
     clear HB
     clear h0_ h1_ h2_ h3_ h4_ h5_ h6_ h7_ h8_ h9_ h10_
     have zo:=n0_
     have za:=n1_
     have zb:=n2_
     have zk:=n3_
     have zu:=n4_
     have zm:=n5_
     have zd:=n6_
     have zh:=n7_
     have zi:=n8_
     have zj:=n9_
     have HB:=n10_
     clear n0_ n1_ n2_ n3_ n4_ n5_ n6_ n7_ n8_ n9_ n10_
     have hHeld:w23.cell? ⟨zc,0,none⟩=some (.int .i64 yb)∧w23.cell? ⟨zc,1,none⟩=some (.slice ye ya.length yd)∧w23.cell? ⟨zc,2,none⟩=some (.slice yg yc.length yf):=hS_
     refine norm_ (a':=?_) ?_ ?_
     rotate_left
     ·simp only[putAll,Act.put,sP]
      rfl
     refine oN 3 30 10 383 HT_ (fun K hK=>?_)
     refine gS Try.func42 #[.slice A1 l1.length c1] ?_
     with_reducible refine(fcn.calls _ _ l1 zw _ ?s1 HC1.out A9.out).mono ?_
     (case s1=>exact sC HR1 HB)
     rintro e w24 ⟨zy,rfl,ho0,hb⟩
     refine⟨_,rfl,?_⟩
     have zn:=aM (Kd.R_lower (Kd.R_new' ho0 (Kd.R_lt (pR zo.out))) (below_size (qB3 HB ze zg zm)))
     replace zo:=eR zo ho0 hb
     replace za:=bK za hb
     replace zb:=bK zb hb
     replace zk:=bK zk hb
     replace HB:=bS (qB3 HB ze zg zm) hb
     obtain⟨zae,zaf,z7⟩:=Kd.R_slice zo.out
     (first|subst z7|(injection z7 with f1_ f2_ f3_;have f4_:=f1_.symm;have f5_:=f3_.symm;clear f1_ f2_ f3_;subst f4_;subst f5_))
     obtain⟨zan,zao,zad⟩:=Kd.R_slice zn.out
     (first|subst zad|(injection zad with f1_ f2_ f3_;have f4_:=f1_.symm;have f5_:=f3_.symm;clear f1_ f2_ f3_;subst f4_;subst f5_))
     refine hK.out _ _ (h3 za) (fun hHeld=>?_)
     clear hK K
     refine nM 30 ?_
     refine pQ 7 34 10 511 HT_ ?_
     exact norm_ (by first|(simp only[putAll,Act.put,sP];done)|(simp only[putAll,Act.put,sP];rfl)) (zab (.slice zan zw.length zao,.slice zae zx.length zaf,zf) _ ⟨hHeld,(by(with_reducible repeat(first|apply rA|apply rN|apply rD));exact Kd.R_mono zn.out (fun _ hk=>hk.2)),(by(with_reducible repeat(first|apply rA|apply rN|apply rD));exact Kd.R_mono zo.out (fun _ hk=>hk.2)),(pK za.out),(pK zb.out),(pK zk.out),zu.out,zm.out,zd.out,zh.out,zi.out,zj.out,(qB3 HB ze zg zm)⟩)
   ·skip
    rintro⟨zy,zf⟩ w22 ⟨hS_,h0_,h1_,h2_,h3_,h4_,h5_,h6_,h7_,h8_,h9_,h10_⟩
    have n0_:Aside0 (Kd.R (Kd.int .i64) 3 w22 w.heap.size (fun _=>True) zy zw):=⟨h0_⟩
    have n1_:Aside0 (w22.heap[zc]?=some (.cells #[.int .i64 yb,.slice ye ya.length yd,.slice yg yc.length yf] 44 (0,0))):=⟨h1_⟩
    have n2_:Aside0 (w22.heap[zl]?=some (.cells #[.int .i64 0,.slice none 0 0,.slice none 0 0] 44 (0,0))):=⟨h2_⟩
    have n3_:Aside0 (w22.heap[zf]?=some (.cells #[.int .i64 0,.slice none 0 0,.slice none 0 0] 44 (0,0))):=⟨h3_⟩
    have n4_:Aside0 (w.heap.size≤zf):=⟨h4_⟩
    have n5_:Aside0 (w.heap.size≤zf):=⟨h5_⟩
    have n6_:Aside0 (zc≠zf):=⟨h6_⟩
    have n7_:Aside0 (zf≠zc):=⟨h7_⟩
    have n8_:Aside0 (zl≠zf):=⟨h8_⟩
    have n9_:Aside0 (zf≠zl):=⟨h9_⟩
    have n10_:Aside0 (Below w.heap.size w w22):=⟨h10_⟩
    clear za
    clear zb
    clear HB
    clear h0_ h1_ h2_ h3_ h4_ h5_ h6_ h7_ h8_ h9_ h10_
    have zn:=n0_
    have za:=n1_
    have zb:=n2_
    have zk:=n3_
    have zu:=n4_
    have zm:=n5_
    have zd:=n6_
    have zh:=n7_
    have zi:=n8_
    have zj:=n9_
    have HB:=n10_
    clear n0_ n1_ n2_ n3_ n4_ n5_ n6_ n7_ n8_ n9_ n10_
    have hHeld:w22.cell? ⟨zc,0,none⟩=some (.int .i64 yb)∧w22.cell? ⟨zc,1,none⟩=some (.slice ye ya.length yd)∧w22.cell? ⟨zc,2,none⟩=some (.slice yg yc.length yf):=hS_
    refine norm_ (a':=?_) ?_ ?_
    rotate_left
    ·simp only[putAll,Act.put,sP]
     rfl
    refine oN 6 33 10 383 HT_ (fun K hK=>?_)
    refine Kd.R_make_step (Kd.int .i64) _ 3 (by rfl) (N:=33) rfl 22 _ _ rfl (l1.length:Int) rfl rfl Try.underlying22 (.int .i64 0) 8 info3 rfl (by decide) (by omega) 0 (ok:=fun _=>True) (okp:=fun _=>True) rfl (fun _ hk=>hk) trivial (of_decide_eq_true pD) (Nat.le_trans (Nat.mul_le_mul_right _ (of_decide_eq_true pD:(l1.length:Int).toNat≤35184372088832)) (by omega)) (Below.refl _ _) (Nat.le_refl _) ?_
    intro zz w23 ho24 hb hg_ hnew_
    clear hg_ hnew_
    (first|rw[← z2.out] at ho24|(simp only[Int.reduceToNat] at ho24;rw[← z2.out] at ho24))
    have zo:=aM (Kd.R_lower (Kd.R_new' ho24 (Kd.R_lt (pR zn.out))) (below_size (qB3 HB ze zg zm)))
    replace zn:=eR zn ho24 hb
    replace za:=bK za hb
    replace zb:=bK zb hb
    replace zk:=bK zk hb
    replace HB:=bS (qB3 HB ze zg zm) hb
    clear hb ho24
    obtain⟨zae,zaf,z7⟩:=Kd.R_slice zo.out
    (first|subst z7|(injection z7 with f1_ f2_ f3_;have f4_:=f1_.symm;have f5_:=f3_.symm;clear f1_ f2_ f3_;subst f4_;subst f5_))
    obtain⟨zan,zao,zad⟩:=Kd.R_slice zn.out
    (first|subst zad|(injection zad with f1_ f2_ f3_;have f4_:=f1_.symm;have f5_:=f3_.symm;clear f1_ f2_ f3_;subst f4_;subst f5_))
    refine hK.out _ _ (h3 za) (fun hHeld=>?_)
    clear hK K
    refine nM 33 ?_
    refine pQ 7 34 10 511 HT_ ?_
    exact norm_ (by first|(simp only[putAll,Act.put,sP];done)|(simp only[putAll,Act.put,sP];rfl)) (zab (.slice zan zw.length zao,.slice zae zx.length zaf,zf) _ ⟨hHeld,(by(with_reducible repeat(first|apply rA|apply rN|apply rD));exact Kd.R_mono zn.out (fun _ hk=>hk.2)),(by(with_reducible repeat(first|apply rA|apply rN|apply rD));exact Kd.R_mono zo.out (fun _ hk=>hk.2)),(pK za.out),(pK zb.out),(pK zk.out),zu.out,zm.out,zd.out,zh.out,zi.out,zj.out,(qB3 HB ze zg zm)⟩)
  ·skip
   rintro⟨zy,zz⟩ w25 ⟨hS_,h0_,h1_,h2_,h3_,h4_⟩
   have n0_:Aside0 (Kd.R (Kd.int .i64) 3 w25 w.heap.size (fun k_=>some k_≠(zz:Value).ownBlock) zy zw):=⟨h0_⟩
   have n1_:Aside0 (Kd.R (Kd.int .i64) 3 w25 w.heap.size (fun k_=>some k_≠(zy:Value).ownBlock) zz zx):=⟨h1_⟩
   have n2_:Aside0 (w25.heap[zc]?=some (.cells #[.int .i64 yb,.slice ye ya.length yd,.slice yg yc.length yf] 44 (0,0))):=⟨h2_⟩
   have n3_:Aside0 (w25.heap[zl]?=some (.cells #[.int .i64 0,.slice none 0 0,.slice none 0 0] 44 (0,0))):=⟨h3_⟩
   have n4_:Aside0 (Below w.heap.size w w25):=⟨h4_⟩
   clear za
   clear zb
   clear HB
   clear h0_ h1_ h2_ h3_ h4_
   have zn:=n0_
   have zo:=n1_
   have za:=n2_
   have zb:=n3_
   have HB:=n4_
   clear n0_ n1_ n2_ n3_ n4_
   have hHeld:w25.cell? ⟨zc,0,none⟩=some (.int .i64 yb)∧w25.cell? ⟨zc,1,none⟩=some (.slice ye ya.length yd)∧w25.cell? ⟨zc,2,none⟩=some (.slice yg yc.length yf):=hS_
   obtain⟨zan,zao,zad⟩:=Kd.R_slice zo.out
   (first|subst zad|(injection zad with f1_ f2_ f3_;have f4_:=f1_.symm;have f5_:=f3_.symm;clear f1_ f2_ f3_;subst f4_;subst f5_))
   obtain⟨zaw,zax,zap⟩:=Kd.R_slice zn.out
   (first|subst zap|(injection zap with f1_ f2_ f3_;have f4_:=f1_.symm;have f5_:=f3_.symm;clear f1_ f2_ f3_;subst f4_;subst f5_))
   refine norm_ (a':=?_) ?_ ?_
   rotate_left
   ·simp only[putAll,Act.put,sP]
    rfl
   refine oN 8 7 10 511 HT_ (fun K hK=>?_)
   refine box_step ?hg (N:=7) ?hd (cs:=#[.int .i64 0,.slice none 0 0,.slice none 0 0]) (t:=44) ?hr ?_;(case hd=>rfl);(case hg=>rfl);(case hr=>first|(go_simp;done)|(go_simp;rfl))
   intro zf hg w28 hbox hb
   replace zn:=bR zn hb
   replace zo:=bR zo hb
   have zk:=aM (hbox)
   have zu:=gE (w:=w) hg (qB2 HB ze zg)
   have zm:=zu
   replace HB:=bS (qB2 HB ze zg) hb
   have zd:=nL hg za
   have zh:=nG hg za
   replace za:=bK za hb
   have zi:=nL hg zb
   have zj:=nG hg zb
   replace zb:=bK zb hb
   clear hb hbox hg
   refine hK.out _ _ (h3 za) (fun hHeld=>?_)
   clear hK K
   refine nM 7 ?_
   exact norm_ (by first|(simp only[putAll,Act.put,sP];done)|(simp only[putAll,Act.put,sP];rfl)) (zab (.slice zaw zw.length zax,.slice zan zx.length zao,zf) _ ⟨hHeld,(pR zn.out),(pR zo.out),(pK za.out),(pK zb.out),(pK zk.out),zu.out,zm.out,zd.out,zh.out,zi.out,zj.out,(qB3 HB ze zg zm)⟩)
 rintro⟨zy,zz,zf⟩ w26 ⟨hS_,h0_,h1_,h2_,h3_,h4_,h5_,h6_,h7_,h8_,h9_,h10_,h11_⟩
 have n0_:Aside0 (Kd.R (Kd.int .i64) 3 w26 w.heap.size (fun k_=>some k_≠(zz:Value).ownBlock) zy zw):=⟨h0_⟩
 have n1_:Aside0 (Kd.R (Kd.int .i64) 3 w26 w.heap.size (fun k_=>some k_≠(zy:Value).ownBlock) zz zx):=⟨h1_⟩
 have n2_:Aside0 (w26.heap[zc]?=some (.cells #[.int .i64 yb,.slice ye ya.length yd,.slice yg yc.length yf] 44 (0,0))):=⟨h2_⟩
 have n3_:Aside0 (w26.heap[zl]?=some (.cells #[.int .i64 0,.slice none 0 0,.slice none 0 0] 44 (0,0))):=⟨h3_⟩
 have n4_:Aside0 (w26.heap[zf]?=some (.cells #[.int .i64 0,.slice none 0 0,.slice none 0 0] 44 (0,0))):=⟨h4_⟩
 have n5_:Aside0 (w.heap.size≤zf):=⟨h5_⟩
 have n6_:Aside0 (w.heap.size≤zf):=⟨h6_⟩
 have n7_:Aside0 (zc≠zf):=⟨h7_⟩
 have n8_:Aside0 (zf≠zc):=⟨h8_⟩
 have n9_:Aside0 (zl≠zf):=⟨h9_⟩
 have n10_:Aside0 (zf≠zl):=⟨h10_⟩
 have n11_:Aside0 (Below w.heap.size w w26):=⟨h11_⟩
 clear za
 clear zb
 clear HB
 clear h0_ h1_ h2_ h3_ h4_ h5_ h6_ h7_ h8_ h9_ h10_ h11_
 have zn:=n0_
 have zo:=n1_
 have za:=n2_
 have zb:=n3_
 have zk:=n4_
 have zu:=n5_
 have zm:=n6_
 have zd:=n7_
 have zh:=n8_
 have zi:=n9_
 have zj:=n10_
 have HB:=n11_
 clear n0_ n1_ n2_ n3_ n4_ n5_ n6_ n7_ n8_ n9_ n10_ n11_
 have hHeld:w26.cell? ⟨zc,0,none⟩=some (.int .i64 yb)∧w26.cell? ⟨zc,1,none⟩=some (.slice ye ya.length yd)∧w26.cell? ⟨zc,2,none⟩=some (.slice yg yc.length yf):=hS_
 obtain⟨zaw,zax,zap⟩:=Kd.R_slice zo.out
 (first|subst zap|(injection zap with f1_ f2_ f3_;have f4_:=f1_.symm;have f5_:=f3_.symm;clear f1_ f2_ f3_;subst f4_;subst f5_))
 obtain⟨yy,yz,zay⟩:=Kd.R_slice zn.out
 (first|subst zay|(injection zay with f1_ f2_ f3_;have f4_:=f1_.symm;have f5_:=f3_.symm;clear f1_ f2_ f3_;subst f4_;subst f5_))
 refine norm_ (a':=?_) ?_ ?_
 rotate_left
 ·simp only[putAll,Act.put,sP]
  rfl
 refine one_ (i:=9) (N:=none) (bm 10 1023) rfl rfl (one_of HT_.out (by kernel_rfl)) (by decide) (fun K hK=>?_)
 have hs29:w26.cell? ⟨zf,0,none⟩=some (.int .i64 0):=(blk_cell zk.out 0).trans rfl
 have hfs29:=blk_frozen zk.out 0
 have hns29_0:=zd.out
 have hns29_1:=zi.out
 have hms29_0:=zh.out
 have hms29_1:=zj.out
 have hs30:w26.cell? ⟨zf,1,none⟩=some (.slice none 0 0):=(blk_cell zk.out 1).trans rfl
 have hfs30:=blk_frozen zk.out 1
 have hns30_0:=zd.out
 have hns30_1:=zi.out
 have hms30_0:=zh.out
 have hms30_1:=zj.out
 have hs31:w26.cell? ⟨zf,2,none⟩=some (.slice none 0 0):=(blk_cell zk.out 2).trans rfl
 have hfs31:=blk_frozen zk.out 2
 have hns31_0:=zd.out
 have hns31_1:=zi.out
 have hms31_0:=zh.out
 have hms31_1:=zj.out
 refine skip_ (w1:=?_) (by rfl) rfl ?_ ?_
 rotate_left
 ·go_simp
  rfl
 refine hK.out _ _ ⟨((cell_far (p:=⟨zf,_,none⟩) zd.out _).trans (((cell_far (p:=⟨zf,_,none⟩) zd.out _).trans (((cell_far (p:=⟨zf,_,none⟩) zd.out _).trans (hHeld.1)))))),((cell_far (p:=⟨zf,_,none⟩) zd.out _).trans (((cell_far (p:=⟨zf,_,none⟩) zd.out _).trans (((cell_far (p:=⟨zf,_,none⟩) zd.out _).trans (hHeld.2.1)))))),((cell_far (p:=⟨zf,_,none⟩) zd.out _).trans (((cell_far (p:=⟨zf,_,none⟩) zd.out _).trans (((cell_far (p:=⟨zf,_,none⟩) zd.out _).trans (hHeld.2.2))))))⟩ (fun hHeld=>?_)
 clear hK K
 refine dN HT_ ?_
 have hnb32:=zd.out
 have hnc32:=zh.out
 have yt:=blk3 za.out
 try go_wp2
 go_loopg [44] k (fun kq v44 w'=>∃ (yh:Int) (zt:List Int) (zp:List Int) (u229001:Value) (u229002:Value),v44=.int .i64 yh∧Aside0 (fct.l0 kq (wrap64 ((l1.length:Int)-(ya.length:Int))) ya (ya.length:Int) yh yb ya yc yb zt zp=some (r1,r2,r3,r4))∧Aside0 (kq≤k)∧Aside0 (Kd.R (Kd.int .i64) 3 w' w.heap.size (fun k_=>some k_≠(u229002:Value).ownBlock) u229001 zt)∧Aside0 (Kd.R (Kd.int .i64) 3 w' w.heap.size (fun k_=>some k_≠(u229001:Value).ownBlock) u229002 zp)∧Aside0 (w'.heap[zc]?=some (.cells #[.int .i64 yb,(.slice ye ya.length yd),(.slice yg yc.length yf)] 44 (0,0)))∧Aside0 (w'.heap[zl]?=some (.cells #[.int .i64 0,(.slice none 0 0),(.slice none 0 0)] 44 (0,0)))∧Aside0 (w'.heap[zf]?=some (.cells #[.int .i64 yb,u229001,u229002] 44 (0,0)))∧Aside0 (Below w.heap.size w w'))
 case atStart=>exact⟨(0),(zw),(zx),(.slice yy zw.length yz),(.slice zaw zx.length zax),(pF),H',⟨Nat.le_refl _⟩,⟨by(with_reducible repeat(first|apply rA|apply rN|apply rD));exact F3 zn zk (fun _ hk=>hk.1)⟩,⟨by(with_reducible repeat(first|apply rA|apply rN|apply rD));exact F3 zo zk (fun _ hk=>hk.1)⟩,⟨by refine B3 zd ?_;exact za.out⟩,⟨by refine B3 zi ?_;exact zb.out⟩,⟨by exact P3 zk⟩,⟨qB3 HB ze zg zm⟩⟩
 clear H'
 try clear c1
 try clear c4
 try clear yt
 obtain⟨yh,zt,zp,u229001,u229002,rfl,HA,HK1,zv,zq,za,zb,zk,HB⟩:=hrel
 cases gk with
 | zero=>exact absurd HA.out (by simp[fct.l0])
 | succ k1=>?_
 have H:=HA.out
 clear HA
 simp only[fct.l0] at H
 by_cases c34:yh<(ya.length:Int)
 rotate_left
 ·rw[iN c34] at H
  have yu:=dF c34
  clear c34
  replace H:=oi4 H
  obtain⟨rfl,rfl,rfl,rfl⟩:=H
  have hnb45:=zh.out
  have hnc45:=zd.out
  have hnb46:=zj.out
  have hnc46:=zi.out
  have hcz47:=blk3 zk.out
  have hnb48:=zs.out
  have hnc48:=zr.out
  have hcz49:=blk3 zb.out
  obtain⟨y0,y1,y2⟩:=Kd.R_slice zv.out
  subst y2
  obtain⟨y3,y4,y5⟩:=Kd.R_slice zq.out
  subst y5
  go_wp2
  refine bodyPost_ret (results_ct rfl _ _ zl 44 #[.int .i64 yb,.slice y0 zt.length y1,.slice y3 zp.length y4] (0,0) _ rfl (by exact P3 zb) Try.underlying44 rfl (by kernel_rfl)) rfl ?_
  exact⟨_,_,pE,by(with_reducible repeat(first|apply rA|apply rN|apply rD));exact F3 zv zb (fun _ hk=>hk.1),by(with_reducible repeat(first|apply rA|apply rN|apply rD));exact F3 zq zb (fun _ hk=>hk.1),qB3 HB ze zg zm⟩
 rw[ip c34] at H
 have yu:=dT c34
 clear c34
 by_cases c35:0≤yh
 rotate_left
 ·rw[iN c35] at H
  cases H
 rw[ip c35] at H
 have c35b0:=dT c35
 clear c35
 by_cases c36:yh<(ya.length:Int)
 rotate_left
 ·rw[iN c36] at H
  cases H
 rw[ip c36] at H
 have c36b0:=dT c36
 clear c36
 by_cases c37:(rd ya yh) > 1
 rotate_left
 ·rw[iN c37] at H
  have yv:decide (1<(rd ya yh))=false:=decide_eq_false c37
  clear c37
  have H':=aM H
  clear H
  obtain⟨yq,⟨⟩,yi,y6,y7⟩:=zI z1.out yh
  replace yi:=zW HB yi
  go_wp2
  go_roundg k1
  case measure=>have:=HK1.out;omega
  case rel=>exact⟨(wrap64 (yh+1)),(zt),(zp),(u229001),(u229002),(pF),H',⟨pO1 HK1⟩,⟨pR zv.out⟩,⟨pR zq.out⟩,⟨pK za.out⟩,⟨pK zb.out⟩,⟨pK zk.out⟩,⟨qB3 HB ze zg zm⟩⟩
 rw[ip c37] at H
 have yv:decide (1<(rd ya yh))=true:=decide_eq_true c37
 clear c37
 by_cases c38:yh<(yc.length:Int)
 rotate_left
 ·rw[iN c38] at H
  cases H
 rw[ip c38] at H
 have c38b0:=dT c38
 clear c38
 obtain⟨ji39,hji39⟩:∃ j_:Int,(wrap64 ((wrap64 ((l1.length:Int)-(ya.length:Int)))+yh))=j_:=⟨_,rfl⟩
 replace H:(if 0≤(ji39)then(if(ji39)<(zp.length:Int)then(fct.l0 k1 (wrap64 ((l1.length:Int)-(ya.length:Int))) ya (ya.length:Int) (wrap64 (yh+1)) yb ya yc yb zt (zp.set ((ji39):Int).toNat (rd yc yh)))else(none))else(none))=some (r1,r2,r3,r4):=by first|(rw[hji39] at H;exact H)|(simp only[hji39] at H ⊢;exact H)
 have hji39w:(IntKind.i64.wrap ((wrap64 ((l1.length:Int)-(ya.length:Int)))+yh))=ji39:=(i64_w _).trans hji39
 by_cases c40:0≤(ji39)
 rotate_left
 ·rw[iN c40] at H
  cases H
 rw[ip c40] at H
 have c40b0:=dT c40
 clear c40
 by_cases c41:(ji39)<(zp.length:Int)
 rotate_left
 ·rw[iN c41] at H
  cases H
 rw[ip c41] at H
 have c41b0:=dT c41
 clear c41
 obtain⟨zaz,zaq⟩:∃ y_:List Int,y_=(zp.set ((ji39):Int).toNat (rd yc yh)):=⟨_,rfl⟩
 replace H:(fct.l0 k1 (wrap64 ((l1.length:Int)-(ya.length:Int))) ya (ya.length:Int) (wrap64 (yh+1)) yb ya yc yb zt zaz)=some (r1,r2,r3,r4):=pH zaq H
 have Ny231:=aM zaq
 clear zaq
 have H':=aM H
 clear H
 obtain⟨yq,⟨⟩,yi,y6,y7⟩:=zI z1.out yh
 replace yi:=zW HB yi
 try go_wp2
 replace zv:=aM (Kd.R_drew zv.out)
 replace zq:=aM (Kd.R_drew zq.out)
 replace za:=aM (blk_drew za.out)
 replace zb:=aM (blk_drew zb.out)
 replace zk:=aM (blk_drew zk.out)
 replace HB:=aM (below_drew1 HB.out)
 obtain⟨yr,⟨⟩,yj,p230,q230⟩:=zI zac.out yh
 have yk:=zW HB yj
 have y8:0≤((ji39):Int):=oD
 have y9:((ji39):Int)<((zp.length:Int):Int):=oD
 obtain⟨yl,za0,za1,za2,gl42,cl42,HG42⟩:=Kd.R_form zq.out (by omega)
 (first|cases za1|(injection za1 with ea_ en_ ec_;(first|subst ea_|(injection ea_ with ea_;subst ea_));subst ec_;clear en_))
 have GB42:=aM za2
 have GG42:=aM HG42
 clear za2 gl42 HG42
 obtain⟨ys,hf42_0⟩:=Kd.R_celln 0 zq.out ((ji39):Int) y8 y9
 have HP44:=Kd.R_putn zq.out ((ji39):Int) (rd yc yh)
 rw[← Ny231.out] at HP44
 have HQ44:=aM HP44
 clear HP44
 refine sT 12 [11] (fun w'=>w'.cell? ⟨zf,0,none⟩=some (.int .i64 yb)∧w'.cell? ⟨zf,1,none⟩=some (u229001)∧w'.cell? ⟨zf,2,none⟩=some (.slice (some ⟨yl,0,none⟩) zp.length za0)∧w'.cell? ⟨zc,0,none⟩=some (.int .i64 yb)∧w'.cell? ⟨zc,1,none⟩=some (.slice (some yq) ya.length yd)∧w'.cell? ⟨zc,2,none⟩=some (.slice (some yr) yc.length yf)∧w'.cell? (yr.add (yh).toNat)=some (.int .i64 (rd yc yh))) fct.tab14 fct.bits14 ⟨(blk_cell zk.out 0).trans rfl,(blk_cell zk.out 1).trans rfl,(blk_cell zk.out 2).trans rfl,(blk_cell za.out 0).trans rfl,(blk_cell za.out 1).trans rfl,(blk_cell za.out 2).trans rfl,(zW HB yj)⟩ (fun hHeld HT_ HW_=>?_)
 generalize wr.drew=w43 at zv zq za zb zk HB GG42 HQ44 hf42_0 yk ys hHeld ⊢
 refine pQ 0 51 12 1 HT_ ?_
 refine pQ 2 53 12 5 HT_ ?_
 refine pQ 3 54 12 13 HT_ ?_
 refine pQ 4 55 12 29 HT_ ?_
 refine pQ 5 56 12 61 HT_ ?_
 refine pQ 7 58 12 189 HT_ ?_
 refine pU7 1 52 12 191 HT_ HW_ hHeld ?_
 refine pU7 6 57 12 255 HT_ HW_ hHeld ?_
 refine pQ 8 59 12 511 HT_ ?_
 refine pU7 9 60 12 1023 HT_ HW_ hHeld ?_
 refine pQ 10 61 12 2047 HT_ ?_
 refine last_ (i:=11) (N:=none) (bm 12 4095) rfl rfl (one_of HT_.out (by kernel_rfl)) (by decide) (fun K hK=>?_)
 refine skip_ (w1:=?_) (by rfl) rfl ?_ ?_
 rotate_left
 ·go_simp
  rfl
 refine hK.out _ _ ?_
 clear hK K
 refine dN HT_ ?_
 try go_wp2
 go_roundg k1
 case measure=>have:=HK1.out;omega
 case rel=>exact⟨(wrap64 (yh+1)),(zt),(zaz),(u229001),(.slice (some ⟨yl,0,none⟩) zp.length za0),(pF),H',⟨pO1 HK1⟩,⟨by(with_reducible repeat(first|apply rA|apply rN|apply rD));exact Kd.R_mono (Kd.R_far (p:=⟨yl,((ji39):Int).toNat,none⟩) (Kd.R_mono zv.out (fun k_ hk=>(⟨hk,fun e_=>hk (by rw[e_];rfl)⟩:_∧k_≠yl))) (fun _ hk=>hk.2) (.int .i64 (rd yc yh))) (fun _ hk=>hk.1)⟩,⟨pR HQ44.out⟩,⟨by(with_reducible repeat(first|apply bN|apply bD|apply bA));refine blk_far ?_ (by have h_:=Kd.R_ne zq.out za.out (by decide);intro e_;exact h_ (by rw[e_];rfl)) _;(with_reducible repeat(first|apply bN|apply bD|apply bA));exact za.out⟩,⟨by(with_reducible repeat(first|apply bN|apply bD|apply bA));refine blk_far ?_ (by have h_:=Kd.R_ne zq.out zb.out (by decide);intro e_;exact h_ (by rw[e_];rfl)) _;(with_reducible repeat(first|apply bN|apply bD|apply bA));exact zb.out⟩,⟨by(with_reducible repeat(first|apply bN|apply bD|apply bA));refine blk_far ?_ (by have h_:=Kd.R_ne zq.out zk.out (by decide);intro e_;exact h_ (by rw[e_];rfl)) _;(with_reducible repeat(first|apply bN|apply bD|apply bA));exact zk.out⟩,⟨qB4 HB GB42 ze zg zm⟩⟩
def fdb.f (yc:Int)(ya yb:List Int):Option (Int×List Int×List Int):=(fcn.f ya).bind fun zi=>((fcn.f yb).bind fun zj=>(some (yc,zi,zj)))
def fdb.T1:TT:=(true,[([],[]),([0],[0]),([],[]),([2],[2]),([3],[3]),([],[]),([5],[5]),([6,4],[6]),([1,4,7],[1,4,7]),([8,7,0,1,2,3,4,5,6,7,8],[8])])
def fdb.B1:List Nat:=[0,1,0,4,12,0,32,124,255,511]
theorem fdb.tab1:rtab .any (opsOf Try.f72 1)=fdb.T1:=by kernel_rfl
theorem fdb.bits1:waitsOk fdb.T1.2 fdb.B1=true:=by kernel_rfl
theorem fdb.calls (yc:Int)(yd:Option Addr)(ye:Nat)(ya:List Int)(yf:Option Addr)(yg:Nat)(yb:List Int)(r1:Int)(r2 r3:List Int)(w:World)(yh:Kd.C (Kd.int .i64) w yd ya.length ya)(yi:ya.length≤ye)(yj:Kd.C (Kd.int .i64) w yf yb.length yb)(yk:yb.length≤yg)(h:fdb.f yc ya yb=some (r1,r2,r3)) :
  Calls Try.prog 72 #[.agg #[.int .i64 yc,.slice yd ya.length ye,.slice yf yb.length yg]] w fun e w'=>∃ v1_ v2_:Value,e=.returned (.agg #[.int .i64 r1,v1_,v2_])∧Kd.R (Kd.int .i64) 3 w' w.heap.size (fun k_=>some k_≠(v2_:Value).ownBlock) v1_ r2∧Kd.R (Kd.int .i64) 3 w' w.heap.size (fun k_=>some k_≠(v1_:Value).ownBlock) v2_ r3∧Below w.heap.size w w':=by
 have hu44:=Try.underlying44
 have yl:=aM yh
 have ym:=aM yi
 clear yh yi
 have yn:=aM yj
 have yo:=aM yk
 clear yj yk
 have HB:=aM (Below.refl w.heap.size w)
 have H:((fcn.f ya).bind fun zi=>((fcn.f yb).bind fun zj=>(some (yc,zi,zj))))=some (r1,r2,r3):=h
 clear h
 replace H:=oB H
 obtain⟨zi,A20,H⟩:=H
 try dsimp only at H
 have A2:=aM A20
 clear A20
 replace H:=oB H
 obtain⟨zj,A30,H⟩:=H
 try dsimp only at H
 have A3:=aM A30
 clear A30
 replace H:=oi3 H
 obtain⟨rfl,rfl,rfl⟩:=H
 go_enter Try.func72,Try.ntmps72
 try go_wp2_with (first|((with_reducible refine gD 1 rfl ?_);refine bX 1 44 #[.int .i64 yc,.slice yd ya.length ye,.slice yf yb.length yg] ?_;intro zk hg w4 hbox hb;have zc:=aM (hbox);have GW167:=gE (w:=w) hg (qB HB);have zf:=GW167;replace HB:=bS (qB HB) hb;clear hb hbox hg)|((with_reducible refine gD 2 rfl ?_);refine bX 2 44 #[.int .i64 0,.slice none 0 0,.slice none 0 0] ?_;intro zd hg w5 hbox hb;have zb:=aM (hbox);have GW168:=gE (w:=w) hg (qB1 HB zf);have zg:=GW168;replace HB:=bS (qB1 HB zf) hb;have za:=nL hg zc;have ze:=nG hg zc;replace zc:=bK zc hb;clear hb hbox hg))
 replace zc:=aM (blk_drew zc.out)
 replace zb:=aM (blk_drew zb.out)
 replace HB:=aM (below_drew1 HB.out)
 refine sT 10 [] (fun w'=>w'.cell? ⟨zk,0,none⟩=some (.int .i64 yc)∧w'.cell? ⟨zk,1,none⟩=some (.slice yd ya.length ye)∧w'.cell? ⟨zk,2,none⟩=some (.slice yf yb.length yg)) fdb.tab1 fdb.bits1 (h3 zc) (fun hHeld HT_ HW_=>?_)
 generalize w5.drew=w6 at zc zb HB hHeld ⊢
 refine pQ 0 3 10 1 HT_ ?_
 refine pQ 2 5 10 5 HT_ ?_
 refine pQ 5 8 10 37 HT_ ?_
 refine pU3 1 4 10 39 HT_ HW_ hHeld ?_
 refine pU3 3 6 10 47 HT_ HW_ hHeld ?_
 refine pU3 6 9 10 111 HT_ HW_ hHeld ?_
 refine oN 4 7 10 127 HT_ (fun K hK=>?_)
 refine gS Try.func42 #[.slice yd ya.length ye] ?_
 with_reducible refine(fcn.calls _ _ ya zi _ ?s1 ym.out A2.out).mono ?_
 (case s1=>exact sC yl HB)
 rintro e w7 ⟨v170,rfl,ho0,hb⟩
 refine⟨_,rfl,?_⟩
 have zh:=aM (Kd.R_lower ho0 (below_size (qB2 HB zf zg)))
 replace zc:=bK zc hb
 replace zb:=bK zb hb
 replace HB:=bS (qB2 HB zf zg) hb
 refine hK.out _ _ (h3 zc) (fun hHeld=>?_)
 clear hK K
 refine nM 7 ?_
 refine oN 7 10 10 255 HT_ (fun K hK=>?_)
 refine gS Try.func42 #[.slice yf yb.length yg] ?_
 with_reducible refine(fcn.calls _ _ yb zj _ ?s1 yo.out A3.out).mono ?_
 (case s1=>exact sC yn HB)
 rintro e w8 ⟨v173,rfl,ho0,hb⟩
 refine⟨_,rfl,?_⟩
 have zl:=aM (Kd.R_lower (Kd.R_new' ho0 (Kd.R_lt (pR zh.out))) (below_size (qB2 HB zf zg)))
 replace zh:=eR zh ho0 hb
 replace zc:=bK zc hb
 replace zb:=bK zb hb
 replace HB:=bS (qB2 HB zf zg) hb
 obtain⟨Ao9,co9,eo9⟩:=Kd.R_slice zl.out
 (first|subst eo9|(injection eo9 with f1_ f2_ f3_;have f4_:=f1_.symm;have f5_:=f3_.symm;clear f1_ f2_ f3_;subst f4_;subst f5_))
 obtain⟨yp,yq,zm⟩:=Kd.R_slice zh.out
 (first|subst zm|(injection zm with f1_ f2_ f3_;have f4_:=f1_.symm;have f5_:=f3_.symm;clear f1_ f2_ f3_;subst f4_;subst f5_))
 refine hK.out _ _ (h3 zc) (fun hHeld=>?_)
 clear hK K
 refine nM 10 ?_
 refine pQ 8 11 10 511 HT_ ?_
 refine one_ (i:=9) (N:=none) (bm 10 1023) rfl rfl (one_of HT_.out (by kernel_rfl)) (by decide) (fun K hK=>?_)
 have hs11:w8.cell? ⟨zd,0,none⟩=some (.int .i64 0):=(blk_cell zb.out 0).trans rfl
 have hfs11:=blk_frozen zb.out 0
 have hns11_0:=za.out
 have hms11_0:=ze.out
 have hs12:w8.cell? ⟨zd,1,none⟩=some (.slice none 0 0):=(blk_cell zb.out 1).trans rfl
 have hfs12:=blk_frozen zb.out 1
 have hns12_0:=za.out
 have hms12_0:=ze.out
 have hs13:w8.cell? ⟨zd,2,none⟩=some (.slice none 0 0):=(blk_cell zb.out 2).trans rfl
 have hfs13:=blk_frozen zb.out 2
 have hns13_0:=za.out
 have hms13_0:=ze.out
 refine skip_ (w1:=?_) (by rfl) rfl ?_ ?_
 rotate_left
 ·go_simp
  rfl
 refine hK.out _ _ ⟨((cell_far (p:=⟨zd,_,none⟩) za.out _).trans (((cell_far (p:=⟨zd,_,none⟩) za.out _).trans (((cell_far (p:=⟨zd,_,none⟩) za.out _).trans (hHeld.1)))))),((cell_far (p:=⟨zd,_,none⟩) za.out _).trans (((cell_far (p:=⟨zd,_,none⟩) za.out _).trans (((cell_far (p:=⟨zd,_,none⟩) za.out _).trans (hHeld.2.1)))))),((cell_far (p:=⟨zd,_,none⟩) za.out _).trans (((cell_far (p:=⟨zd,_,none⟩) za.out _).trans (((cell_far (p:=⟨zd,_,none⟩) za.out _).trans (hHeld.2.2))))))⟩ (fun hHeld=>?_)
 clear hK K
 refine dN HT_ ?_
 try go_wp2
 refine bodyPost_ret (results_cell_row rfl _ _ zd 44 #[.int .i64 yc,.slice yp zi.length yq,.slice Ao9 zj.length co9] (0,0) _ rfl (by exact P3 zb) Try.underlying44 rfl (by kernel_rfl)) rfl ?_
 exact⟨_,_,pE,by(with_reducible repeat(first|apply rA|apply rN|apply rD));exact F3 zh zb (fun _ hk=>hk.1.2),by(with_reducible repeat(first|apply rA|apply rN|apply rD));exact F3 zl zb (fun _ hk=>hk.1.2),qB2 HB zf zg⟩
def fcu.j0:Nat→Int→Bool→Int→List Int→List Int→Option (Int×List Int×List Int×Int)
 | 0,_,_,_,_,_=>none
 | k+1,x1,x20,yo,zy,zz=>if x20=true then(some (0,([]:List Int),([]:List Int),10))else((fdb.f yo zy zz).bind fun bt235=>(if 0≤x1 then(if x1<(zy.length:Int)then(if(rd zy x1) > 1 then(if x1<(zz.length:Int)then(if x1<(bt235.2.2.length:Int)then(some (wrap64 (bt235.1+(wrap64 ((wrap64 ((rd zy x1)-1))*(rd zz x1)))),bt235.2.1,(bt235.2.2.set (x1:Int).toNat (wrap64 (-(rd zz x1)))),0))else(none))else(none))else(some (bt235.1,bt235.2.1,bt235.2.2,0)))else(none))else(none)))
def fcu.f (k:Nat) (yd:Int)(yc yb:List Int)(a1:Int):Option (Int×List Int×List Int×Int):=(fdd.f k yd yc yb).bind fun zaa=>(if zaa=true then(if a1<0 then(fcu.j0 k a1 true yd yc yb)else(fcu.j0 k a1 (decide (a1 ≥ (yc.length:Int))) yd yc yb))else(some (0,([]:List Int),([]:List Int),1)))
def fcu.T8:TT:=(true,[([],[]),([0],[0]),([],[]),([2],[2]),([],[]),([4],[4]),([],[]),([5,6],[5,6]),([7],[7]),([3,8],[3,8]),([1,9],[1,9]),([0,1,2,3,4,5,6,7,8,9,10],[]),([11,10,0,1,2,3,4,5,6,7,8,9,10],[10,11])])
def fcu.B8:List Nat:=[0,1,0,4,0,16,0,112,240,508,1023,2047,4095]
theorem fcu.tab8:rtab .any (opsOf Try.f47 8)=fcu.T8:=by kernel_rfl
theorem fcu.bits8:waitsOk fcu.T8.2 fcu.B8=true:=by kernel_rfl
def fcu.T9:TT:=(true,[([],[]),([0],[0]),([],[]),([],[]),([3],[3]),([],[]),([4,5],[4,5]),([6],[6]),([7],[7]),([1,2,0,1,2,3,4,5,6,7,8],[1,2]),([9,8,0,1,2,3,4,5,6,7,8],[8,9])])
def fcu.B9:List Nat:=[0,1,0,0,8,0,56,120,248,511,1023]
theorem fcu.tab9:rtab .any (opsOf Try.f47 9)=fcu.T9:=by kernel_rfl
theorem fcu.bits9:waitsOk fcu.T9.2 fcu.B9=true:=by kernel_rfl
theorem fcu.calls (k:Nat) (yd:Int)(yl:Option Addr)(yg:Nat)(yc:List Int)(yk:Option Addr)(yh:Nat)(yb:List Int)(a1 r1:Int)(r2 r3:List Int)(r4:Int)(w:World)(yr:Kd.C (Kd.int .i64) w yl yc.length yc)(ys:yc.length≤yg)(yt:Kd.C (Kd.int .i64) w yk yb.length yb)(yu:yb.length≤yh)(h:fcu.f k yd yc yb a1=some (r1,r2,r3,r4)) :
  Calls Try.prog 47 #[.agg #[.int .i64 yd,.slice yl yc.length yg,.slice yk yb.length yh],.int .i64 a1] w fun e w'=>∃ v1_ v2_:Value,e=.returned (.tuple #[.agg #[.int .i64 r1,v1_,v2_],.int .i64 r4])∧Kd.R (Kd.int .i64) 3 w' w.heap.size (fun k_=>some k_≠(v2_:Value).ownBlock) v1_ r2∧Kd.R (Kd.int .i64) 3 w' w.heap.size (fun k_=>some k_≠(v1_:Value).ownBlock) v2_ r3∧Below w.heap.size w w':=by
 have hu44:=Try.underlying44
 have z0:=aM yr
 have z6:=aM ys
 clear yr ys
 have z1:=aM yt
 have z7:=aM yu
 clear yt yu
 have HB:=aM (Below.refl w.heap.size w)
 have H:((fdd.f k yd yc yb).bind fun zaa=>(if zaa=true then(if a1<0 then(fcu.j0 k a1 true yd yc yb)else(fcu.j0 k a1 (decide (a1 ≥ (yc.length:Int))) yd yc yb))else(some (0,([]:List Int),([]:List Int),1))))=some (r1,r2,r3,r4):=h
 clear h
 replace H:=oB H
 obtain⟨zaa,A30,H⟩:=H
 try dsimp only at H
 have A3:=aM A30
 clear A30
 by_cases c4:zaa=true
 rotate_left
 ·replace c4:=Bool.eq_false_iff.mpr c4
  subst c4
  rw[iN fT] at H
  replace H:=oi4 H
  obtain⟨rfl,rfl,rfl,rfl⟩:=H
  go_enter Try.func47,Try.ntmps47
  go_wp2_with (first|((with_reducible refine gD 2 rfl ?_);(try (refine gate_guard (by rfl) ?_;dsimp only));refine bX 2 44 #[.int .i64 yd,.slice yl yc.length yg,.slice yk yb.length yh] ?_;intro zt hg w54 hbox hb;have zb:=aM (hbox);have zab:=gE (w:=w) hg (qB HB);have zf:=zab;replace HB:=bS (qB HB) hb;clear hb hbox hg)|((with_reducible refine gD 4 rfl ?_);(try (refine gate_guard (by rfl) ?_;dsimp only));refine bX 4 44 #[.int .i64 0,.slice none 0 0,.slice none 0 0] ?_;intro zl hg w55 hbox hb;have zc:=aM (hbox);have zac:=gE (w:=w) hg (qB1 HB zf);have zk:=zac;replace HB:=bS (qB1 HB zf) hb;have zm:=nL hg zb;have zn:=nG hg zb;replace zb:=bK zb hb;clear hb hbox hg;have hnb56:=zm.out;have hnc56:=zn.out;have hcz57:=blk3 zb.out)|((with_reducible refine gC 49 rfl ?_);refine gL 9 Try.func49 #[.agg #[.int .i64 yd,.slice yl yc.length yg,.slice yk yb.length yh]] ?_;(with_reducible refine(fdd.calls k yd _ _ yc _ _ yb false _ ?s1 z6.out ?s3 z7.out A3.out).mono ?_);(case s1=>exact sC z0 HB);(case s3=>exact sC z1 HB);rintro e w58 ⟨rfl,hb⟩;refine⟨_,rfl,?_⟩;replace zb:=bK zb hb;replace zc:=bK zc hb;replace HB:=bS (qB2 HB zf zk) hb;have hcz59:=blk3 zc.out))
  refine bodyPost_ret (results_ct rfl _ _ zl 44 #[.int .i64 0,.slice none 0 0,.slice none 0 0] (0,0) _ rfl (by exact P3 zc) Try.underlying44 rfl (by kernel_rfl)) rfl ?_
  exact⟨_,_,pE,pN,pN,qB2 HB zf zk⟩
 subst c4
 rw[ip rfl] at H
 have HC5:=aM H
 clear H
 go_enter Try.func47,Try.ntmps47
 go_upto_region 3 with(first|((with_reducible refine gD 2 rfl ?_);(try (refine gate_guard (by rfl) ?_;dsimp only));refine bX 2 44 #[.int .i64 yd,.slice yl yc.length yg,.slice yk yb.length yh] ?_;intro zt hg w6 hbox hb;have zb:=aM (hbox);have zab:=gE (w:=w) hg (qB HB);have zf:=zab;replace HB:=bS (qB HB) hb;clear hb hbox hg)|((with_reducible refine gD 4 rfl ?_);(try (refine gate_guard (by rfl) ?_;dsimp only));refine bX 4 44 #[.int .i64 0,.slice none 0 0,.slice none 0 0] ?_;intro zl hg w7 hbox hb;have zc:=aM (hbox);have zac:=gE (w:=w) hg (qB1 HB zf);have zk:=zac;replace HB:=bS (qB1 HB zf) hb;have zm:=nL hg zb;have zn:=nG hg zb;replace zb:=bK zb hb;clear hb hbox hg;have hnb8:=zm.out;have hnc8:=zn.out;have hcz9:=blk3 zb.out)|((with_reducible refine gC 49 rfl ?_);refine gL 9 Try.func49 #[.agg #[.int .i64 yd,.slice yl yc.length yg,.slice yk yb.length yh]] ?_;(with_reducible refine(fdd.calls k yd _ _ yc _ _ yb true _ ?s1 z6.out ?s3 z7.out A3.out).mono ?_);(case s1=>exact sC z0 HB);(case s3=>exact sC z1 HB);rintro e w10 ⟨rfl,hb⟩;refine⟨_,rfl,?_⟩;replace zb:=bK zb hb;replace zc:=bK zc hb;replace HB:=bS (qB2 HB zf zk) hb))
 (try simp only[Act.put,sP])
 go_cut [20] (fun v20 wc=>∃ (kq:Nat) (ym:Bool),v20=.bool ym∧Aside0 (fcu.j0 kq a1 ym yd yc yb=some (r1,r2,r3,r4))∧Aside0 (kq≤k)∧Aside0 (wc.heap[zt]?=some (.cells #[.int .i64 yd,(.slice yl yc.length yg),(.slice yk yb.length yh)] 44 (0,0)))∧Aside0 (wc.heap[zl]?=some (.cells #[.int .i64 0,(.slice none 0 0),(.slice none 0 0)] 44 (0,0)))∧Aside0 (Below w.heap.size w wc))
 case first =>
  have H:=HC5.out
  clear HC5
  by_cases c11:a1<0
  ·rw[ip c11] at H
   have z3:=dT c11
   clear c11
   (first|rw[z3]|(simp only[i64_w,i32_w];rw[z3])|skip)
   have H':=aM H
   clear H
   go_wp2
   go_meet
   case rel=>exact⟨_,(true),(pF),H',⟨pO⟩,⟨pK zb.out⟩,⟨pK zc.out⟩,⟨qB2 HB zf zk⟩⟩
  rw[iN c11] at H
  have z3:=dF c11
  clear c11
  (first|rw[z3]|(simp only[i64_w,i32_w];rw[z3])|skip)
  have H':=aM H
  clear H
  have hnb12:=zm.out
  have hnc12:=zn.out
  have hcz13:=blk3 zb.out
  go_wp2
  go_meet
  case rel=>exact⟨_,(decide (a1 ≥ (yc.length:Int))),(pF),H',⟨pO⟩,⟨pK zb.out⟩,⟨pK zc.out⟩,⟨qB2 HB zf zk⟩⟩
 clear HC5
 try clear c4
 try clear hcz9
 obtain⟨kq,ym,rfl,HA,HJ4,zb,zc,HB⟩:=hcut
 cases kq with
 | zero=>exact absurd HA.out (by simp[fcu.j0])
 | succ kj4=>?_
 have H:=HA.out
 clear HA
 simp only[fcu.j0] at H
 by_cases c14:ym=true
 ·subst c14
  rw[ip rfl] at H
  replace H:=oi4 H
  obtain⟨rfl,rfl,rfl,rfl⟩:=H
  have hnb15:=zn.out
  have hnc15:=zm.out
  have hcz16:=blk3 zc.out
  go_wp2
  refine bodyPost_ret (results_ct rfl _ _ zl 44 #[.int .i64 0,.slice none 0 0,.slice none 0 0] (0,0) _ rfl (by exact P3 zc) Try.underlying44 rfl (by kernel_rfl)) rfl ?_
  exact⟨_,_,pE,pN,pN,qB2 HB zf zk⟩
 replace c14:=Bool.eq_false_iff.mpr c14
 subst c14
 rw[iN fT] at H
 replace H:=oB H
 obtain⟨⟨zg,zj,zh⟩,zae,H⟩:=H
 try dsimp only at H
 have A17:=aM zae
 clear zae
 by_cases c18:0≤a1
 rotate_left
 ·rw[iN c18] at H
  cases H
 rw[ip c18] at H
 have c18b0:=dT c18
 clear c18
 by_cases c19:a1<(yc.length:Int)
 rotate_left
 ·rw[iN c19] at H
  cases H
 rw[ip c19] at H
 have c19b0:=dT c19
 clear c19
 by_cases c20:(rd yc a1) > 1
 rotate_left
 ·rw[iN c20] at H
  have yw:decide (1<(rd yc a1))=false:=decide_eq_false c20
  clear c20
  replace H:=oi4 H
  obtain⟨rfl,rfl,rfl,rfl⟩:=H
  have hnb43:=zm.out
  have hnc43:=zn.out
  have hcz44:=blk3 zb.out
  go_wp2_with (first|((with_reducible refine gC 72 rfl ?_);refine gL 23 Try.func72 #[.agg #[.int .i64 yd,.slice yl yc.length yg,.slice yk yb.length yh]] ?_;(with_reducible refine(fdb.calls yd _ _ yc _ _ yb zg zj zh _ ?s1 z6.out ?s3 z7.out A17.out).mono ?_);(case s1=>exact sC z0 HB);(case s3=>exact sC z1 HB);rintro e w45 ⟨v237,v240,rfl,ho0,ho1,hb⟩;refine⟨_,rfl,?_⟩;have zi:=aM (Kd.R_lower ho0 (below_size (qB2 HB zf zk)));have ze:=aM (Kd.R_lower ho1 (below_size (qB2 HB zf zk)));replace zb:=bK zb hb;replace zc:=bK zc hb;replace HB:=bS (qB2 HB zf zk) hb)|((with_reducible refine gD 6 rfl ?_);(try (refine gate_guard (by rfl) ?_;dsimp only));refine bX 6 44 #[.int .i64 0,.slice none 0 0,.slice none 0 0] ?_;intro za hg w46 hbox hb;replace zi:=bR zi hb;replace ze:=bR ze hb;have zd:=aM (hbox);have zx:=gE (w:=w) hg (qB2 HB zf zk);have z2:=zx;replace HB:=bS (qB2 HB zf zk) hb;have zp:=nL hg zb;have zu:=nG hg zb;replace zb:=bK zb hb;have zo:=nL hg zc;have zv:=nG hg zc;replace zc:=bK zc hb;clear hb hbox hg;have hnb47:=zu.out;have hnc47:=zp.out;have hnb48:=zv.out;have hnc48:=zo.out;have hcz49:=blk3 zd.out;obtain⟨z4,z5,yy⟩:=Kd.R_slice zi.out;subst yy;obtain⟨z8,z9,yz⟩:=Kd.R_slice ze.out;subst yz;have hcz52:=blk3 zb.out;obtain⟨ye,⟨⟩,ya,y0,y1⟩:=zI z0.out a1;have hn243_0:ye.block≠za:=Nat.ne_of_lt (Nat.lt_of_lt_of_le (by have:=World.block_lt_of_cell? _ _ ya;first|rwa [add_block] at this|exact this) zx.out);have hn243_1:ye.block≠za:=Nat.ne_of_lt (Nat.lt_of_lt_of_le (by have:=World.block_lt_of_cell? _ _ ya;first|rwa [add_block] at this|exact this) zx.out);have hn243_2:ye.block≠za:=Nat.ne_of_lt (Nat.lt_of_lt_of_le (by have:=World.block_lt_of_cell? _ _ ya;first|rwa [add_block] at this|exact this) zx.out);replace ya:=zW HB ya;replace ya:=(cell_far (p:=⟨za,0,none⟩) (by first|(rw[add_block];exact hn243_0)|(show (Addr.add _ _).block≠_;rw[add_block];exact hn243_0)|exact hn243_0) (.int .i64 zg)).trans ya;replace ya:=(cell_far (p:=⟨za,1,none⟩) (by first|(rw[add_block];exact hn243_1)|(show (Addr.add _ _).block≠_;rw[add_block];exact hn243_1)|exact hn243_1) (.slice z4 zj.length z5)).trans ya;replace ya:=(cell_far (p:=⟨za,2,none⟩) (by first|(rw[add_block];exact hn243_2)|(show (Addr.add _ _).block≠_;rw[add_block];exact hn243_2)|exact hn243_2) (.slice z8 zh.length z9)).trans ya;clear hn243_0;clear hn243_1;clear hn243_2;have hcz53:=blk3 zc.out))
  refine bodyPost_ret (results_ct rfl _ _ zl 44 #[.int .i64 zg,.slice z4 zj.length z5,.slice z8 zh.length z9] (0,0) _ rfl (by(with_reducible repeat(first|apply bN|apply bD|apply bA));refine blk_put (cs:=#[.int .i64 zg,.slice z4 zj.length z5,.slice none 0 0]) ?_ 2 _ rfl;(with_reducible repeat(first|apply bN|apply bD|apply bA));refine blk_put (cs:=#[.int .i64 zg,.slice none 0 0,.slice none 0 0]) ?_ 1 _ rfl;(with_reducible repeat(first|apply bN|apply bD|apply bA));refine blk_put (cs:=#[.int .i64 0,.slice none 0 0,.slice none 0 0]) ?_ 0 _ rfl;refine B3 zo ?_;exact zc.out) Try.underlying44 rfl (by kernel_rfl)) rfl ?_
  exact⟨_,_,pE,by(with_reducible repeat(first|apply rA|apply rN|apply rD));exact Kd.R_mono (Kd.R_far (p:=⟨zl,2,none⟩) (Kd.R_far (p:=⟨zl,1,none⟩) (Kd.R_far (p:=⟨zl,0,none⟩) (Kd.R_far (p:=⟨za,2,none⟩) (Kd.R_far (p:=⟨za,1,none⟩) (Kd.R_far (p:=⟨za,0,none⟩) (Kd.R_types (Kd.R_types zi.out zd.out (by decide)) zc.out (by decide)) (fun _ hk=>hk.1.2) (.int .i64 zg)) (fun _ hk=>hk.1.2) (.slice z4 zj.length z5)) (fun _ hk=>hk.1.2) (.slice z8 zh.length z9)) (fun _ hk=>hk.2) (.int .i64 zg)) (fun _ hk=>hk.2) (.slice z4 zj.length z5)) (fun _ hk=>hk.2) (.slice z8 zh.length z9)) (fun _ hk=>hk.1.1),by(with_reducible repeat(first|apply rA|apply rN|apply rD));exact Kd.R_mono (Kd.R_far (p:=⟨zl,2,none⟩) (Kd.R_far (p:=⟨zl,1,none⟩) (Kd.R_far (p:=⟨zl,0,none⟩) (Kd.R_far (p:=⟨za,2,none⟩) (Kd.R_far (p:=⟨za,1,none⟩) (Kd.R_far (p:=⟨za,0,none⟩) (Kd.R_types (Kd.R_types ze.out zd.out (by decide)) zc.out (by decide)) (fun _ hk=>hk.1.2) (.int .i64 zg)) (fun _ hk=>hk.1.2) (.slice z4 zj.length z5)) (fun _ hk=>hk.1.2) (.slice z8 zh.length z9)) (fun _ hk=>hk.2) (.int .i64 zg)) (fun _ hk=>hk.2) (.slice z4 zj.length z5)) (fun _ hk=>hk.2) (.slice z8 zh.length z9)) (fun _ hk=>hk.1.1),qB3 HB zf zk z2⟩
 rw[ip c20] at H
 have yw:decide (1<(rd yc a1))=true:=decide_eq_true c20
 clear c20
 by_cases c21:a1<(yb.length:Int)
 rotate_left
 ·rw[iN c21] at H
  cases H
 rw[ip c21] at H
 have c21b0:=dT c21
 clear c21
 by_cases c22:a1<(zh.length:Int)
 rotate_left
 ·rw[iN c22] at H
  cases H
 rw[ip c22] at H
 have c22b0:=dT c22
 clear c22
 obtain⟨zaf,zad⟩:∃ y_:List Int,y_=(zh.set (a1:Int).toNat (wrap64 (-(rd yb a1)))):=⟨_,rfl⟩
 replace H:(some (wrap64 (zg+(wrap64 ((wrap64 ((rd yc a1)-1))*(rd yb a1)))),zj,zaf,0))=some (r1,r2,r3,r4):=pH zad H
 have Ny246:=aM zad
 clear zad
 replace H:=oi4 H
 obtain⟨rfl,rfl,rfl,rfl⟩:=H
 have hnb24:=zm.out
 have hnc24:=zn.out
 have hcz25:=blk3 zb.out
 try go_wp2_with (first|((with_reducible refine gC 72 rfl ?_);refine gL 23 Try.func72 #[.agg #[.int .i64 yd,.slice yl yc.length yg,.slice yk yb.length yh]] ?_;(with_reducible refine(fdb.calls yd _ _ yc _ _ yb zg zj zh _ ?s1 z6.out ?s3 z7.out A17.out).mono ?_);(case s1=>exact sC z0 HB);(case s3=>exact sC z1 HB);rintro e w26 ⟨v237,v240,rfl,ho0,ho1,hb⟩;refine⟨_,rfl,?_⟩;have zi:=aM (Kd.R_lower ho0 (below_size (qB2 HB zf zk)));have ze:=aM (Kd.R_lower ho1 (below_size (qB2 HB zf zk)));replace zb:=bK zb hb;replace zc:=bK zc hb;replace HB:=bS (qB2 HB zf zk) hb)|((with_reducible refine gD 6 rfl ?_);(try (refine gate_guard (by rfl) ?_;dsimp only));refine bX 6 44 #[.int .i64 0,.slice none 0 0,.slice none 0 0] ?_;intro za hg w27 hbox hb;replace zi:=bR zi hb;replace ze:=bR ze hb;have zd:=aM (hbox);have zx:=gE (w:=w) hg (qB2 HB zf zk);have z2:=zx;replace HB:=bS (qB2 HB zf zk) hb;have zp:=nL hg zb;have zu:=nG hg zb;replace zb:=bK zb hb;have zo:=nL hg zc;have zv:=nG hg zc;replace zc:=bK zc hb;clear hb hbox hg;have hnb28:=zu.out;have hnc28:=zp.out;have hnb29:=zv.out;have hnc29:=zo.out;have hcz30:=blk3 zd.out;obtain⟨zq,zr,y2⟩:=Kd.R_slice zi.out;subst y2;obtain⟨zw,zs,y3⟩:=Kd.R_slice ze.out;subst y3;have hcz33:=blk3 zb.out;obtain⟨ye,⟨⟩,ya,y0,y1⟩:=zI z0.out a1;have hn243_0:ye.block≠za:=Nat.ne_of_lt (Nat.lt_of_lt_of_le (by have:=World.block_lt_of_cell? _ _ ya;first|rwa [add_block] at this|exact this) zx.out);have hn243_1:ye.block≠za:=Nat.ne_of_lt (Nat.lt_of_lt_of_le (by have:=World.block_lt_of_cell? _ _ ya;first|rwa [add_block] at this|exact this) zx.out);have hn243_2:ye.block≠za:=Nat.ne_of_lt (Nat.lt_of_lt_of_le (by have:=World.block_lt_of_cell? _ _ ya;first|rwa [add_block] at this|exact this) zx.out);replace ya:=zW HB ya;replace ya:=(cell_far (p:=⟨za,0,none⟩) (by first|(rw[add_block];exact hn243_0)|(show (Addr.add _ _).block≠_;rw[add_block];exact hn243_0)|exact hn243_0) (.int .i64 zg)).trans ya;replace ya:=(cell_far (p:=⟨za,1,none⟩) (by first|(rw[add_block];exact hn243_1)|(show (Addr.add _ _).block≠_;rw[add_block];exact hn243_1)|exact hn243_1) (.slice zq zj.length zr)).trans ya;replace ya:=(cell_far (p:=⟨za,2,none⟩) (by first|(rw[add_block];exact hn243_2)|(show (Addr.add _ _).block≠_;rw[add_block];exact hn243_2)|exact hn243_2) (.slice zw zh.length zs)).trans ya;clear hn243_0;clear hn243_1;clear hn243_2))
 have n0_:Aside0 (Kd.R (Kd.int .i64) 3 (((w27.setCell ⟨za,0,none⟩ (.int .i64 zg)).setCell ⟨za,1,none⟩ (.slice zq zj.length zr)).setCell ⟨za,2,none⟩ (.slice zw zh.length zs)) w.heap.size (fun k_=>some k_≠(.slice zw zh.length zs:Value).ownBlock) (.slice zq zj.length zr) zj):=⟨by(with_reducible repeat(first|apply rA|apply rN|apply rD));exact F3 zi zd (fun _ hk=>hk.1)⟩
 have n1_:Aside0 (Kd.R (Kd.int .i64) 3 (((w27.setCell ⟨za,0,none⟩ (.int .i64 zg)).setCell ⟨za,1,none⟩ (.slice zq zj.length zr)).setCell ⟨za,2,none⟩ (.slice zw zh.length zs)) w.heap.size (fun k_=>some k_≠(.slice zq zj.length zr:Value).ownBlock) (.slice zw zh.length zs) zh):=⟨by(with_reducible repeat(first|apply rA|apply rN|apply rD));exact F3 ze zd (fun _ hk=>hk.1)⟩
 have n2_:Aside0 ((((w27.setCell ⟨za,0,none⟩ (.int .i64 zg)).setCell ⟨za,1,none⟩ (.slice zq zj.length zr)).setCell ⟨za,2,none⟩ (.slice zw zh.length zs)).heap[zt]?=some (.cells #[.int .i64 yd,.slice (some ye) yc.length yg,.slice yk yb.length yh] 44 (0,0))):=⟨by refine B3 zp ?_;exact zb.out⟩
 have n3_:Aside0 ((((w27.setCell ⟨za,0,none⟩ (.int .i64 zg)).setCell ⟨za,1,none⟩ (.slice zq zj.length zr)).setCell ⟨za,2,none⟩ (.slice zw zh.length zs)).heap[zl]?=some (.cells #[.int .i64 0,.slice none 0 0,.slice none 0 0] 44 (0,0))):=⟨by refine B3 zo ?_;exact zc.out⟩
 have n4_:Aside0 ((((w27.setCell ⟨za,0,none⟩ (.int .i64 zg)).setCell ⟨za,1,none⟩ (.slice zq zj.length zr)).setCell ⟨za,2,none⟩ (.slice zw zh.length zs)).heap[za]?=some (.cells #[.int .i64 zg,.slice zq zj.length zr,.slice zw zh.length zs] 44 (0,0))):=⟨by exact P3 zd⟩
 have n5_:Aside0 (Below w.heap.size w (((w27.setCell ⟨za,0,none⟩ (.int .i64 zg)).setCell ⟨za,1,none⟩ (.slice zq zj.length zr)).setCell ⟨za,2,none⟩ (.slice zw zh.length zs))):=⟨qB3 HB zf zk z2⟩
 (try clear zi)
 (try clear ze)
 (try clear zb)
 (try clear zc)
 (try clear zd)
 (try clear HB)
 generalize (((w27.setCell ⟨za,0,none⟩ (.int .i64 zg)).setCell ⟨za,1,none⟩ (.slice zq zj.length zr)).setCell ⟨za,2,none⟩ (.slice zw zh.length zs))=w34 at n0_ n1_ n2_ n3_ n4_ n5_ ⊢
 have zi:=n0_
 have ze:=n1_
 have zb:=n2_
 have zc:=n3_
 have zd:=n4_
 have HB:=n5_
 clear n0_ n1_ n2_ n3_ n4_ n5_
 replace zi:=aM (Kd.R_drew zi.out)
 replace ze:=aM (Kd.R_drew ze.out)
 replace zb:=aM (blk_drew zb.out)
 replace zc:=aM (blk_drew zc.out)
 replace zd:=aM (blk_drew zd.out)
 replace HB:=aM (below_drew1 HB.out)
 obtain⟨yj,⟨⟩,yn,p244,q244⟩:=zI z1.out a1
 have yp:=zW HB yn
 refine sT 13 [12] (fun w'=>w'.cell? ⟨za,0,none⟩=some (.int .i64 zg)∧w'.cell? ⟨za,1,none⟩=some (.slice zq zj.length zr)∧w'.cell? ⟨za,2,none⟩=some (.slice zw zh.length zs)∧w'.cell? ⟨zt,0,none⟩=some (.int .i64 yd)∧w'.cell? ⟨zt,1,none⟩=some (.slice (some ye) yc.length yg)∧w'.cell? ⟨zt,2,none⟩=some (.slice (some yj) yb.length yh)∧w'.cell? (yj.add (a1).toNat)=some (.int .i64 (rd yb a1))) fcu.tab8 fcu.bits8 ⟨(blk_cell zd.out 0).trans rfl,(blk_cell zd.out 1).trans rfl,(blk_cell zd.out 2).trans rfl,(blk_cell zb.out 0).trans rfl,(blk_cell zb.out 1).trans rfl,(blk_cell zb.out 2).trans rfl,(zW HB yn)⟩ (fun hHeld HT_ HW_=>?_)
 generalize w34.drew=w35 at zi ze zb zc zd HB yp hHeld ⊢
 refine pQ 0 31 13 1 HT_ ?_
 refine pQ 2 33 13 5 HT_ ?_
 refine pQ 3 34 13 13 HT_ ?_
 refine pQ 4 35 13 29 HT_ ?_
 refine pQ 6 37 13 93 HT_ ?_
 refine pU7 1 32 13 95 HT_ HW_ hHeld ?_
 refine pU7 5 36 13 127 HT_ HW_ hHeld ?_
 refine pQ 7 38 13 255 HT_ ?_
 refine pU7 8 39 13 511 HT_ HW_ hHeld ?_
 refine pQ 9 40 13 1023 HT_ ?_
 refine pQ 10 41 13 2047 HT_ ?_
 refine pQ 11 42 13 4095 HT_ ?_
 refine last_ (i:=12) (N:=none) (bm 13 8191) rfl rfl (one_of HT_.out (by kernel_rfl)) (by decide) (fun K hK=>?_)
 have hs36:w35.cell? ⟨za,0,none⟩=some (.int .i64 zg):=(blk_cell zd.out 0).trans rfl
 have hfs36:=blk_frozen zd.out 0
 have hns36_0:=zp.out
 have hns36_1:=zo.out
 have hms36_0:=zu.out
 have hms36_1:=zv.out
 refine skip_ (w1:=?_) (by rfl) rfl ?_ ?_
 rotate_left
 ·go_simp
  rfl
 refine hK.out _ _ ?_
 clear hK K
 refine dN HT_ ?_
 try go_wp2
 have n0_:Aside0 (Kd.R (Kd.int .i64) 3 (w35.setCell ⟨za,0,none⟩ (.int .i64 (wrap64 (zg+(wrap64 ((wrap64 ((rd yc a1)-1))*(rd yb a1))))))) w.heap.size (fun k_=>some k_≠(.slice zw zh.length zs:Value).ownBlock) (.slice zq zj.length zr) zj):=⟨by(with_reducible repeat(first|apply rA|apply rN|apply rD));exact Kd.R_mono (Kd.R_far (p:=⟨za,0,none⟩) (Kd.R_types zi.out zd.out (by decide)) (fun _ hk=>hk.2) (.int .i64 (wrap64 (zg+(wrap64 ((wrap64 ((rd yc a1)-1))*(rd yb a1))))))) (fun _ hk=>hk.1)⟩
 have n1_:Aside0 (Kd.R (Kd.int .i64) 3 (w35.setCell ⟨za,0,none⟩ (.int .i64 (wrap64 (zg+(wrap64 ((wrap64 ((rd yc a1)-1))*(rd yb a1))))))) w.heap.size (fun k_=>some k_≠(.slice zq zj.length zr:Value).ownBlock) (.slice zw zh.length zs) zh):=⟨by(with_reducible repeat(first|apply rA|apply rN|apply rD));exact Kd.R_mono (Kd.R_far (p:=⟨za,0,none⟩) (Kd.R_types ze.out zd.out (by decide)) (fun _ hk=>hk.2) (.int .i64 (wrap64 (zg+(wrap64 ((wrap64 ((rd yc a1)-1))*(rd yb a1))))))) (fun _ hk=>hk.1)⟩
 have n2_:Aside0 ((w35.setCell ⟨za,0,none⟩ (.int .i64 (wrap64 (zg+(wrap64 ((wrap64 ((rd yc a1)-1))*(rd yb a1))))))).heap[zt]?=some (.cells #[.int .i64 yd,.slice (some ye) yc.length yg,.slice (some yj) yb.length yh] 44 (0,0))):=⟨by(with_reducible repeat(first|apply bN|apply bD|apply bA));refine blk_far ?_ zp.out _;(with_reducible repeat(first|apply bN|apply bD|apply bA));exact zb.out⟩
 have n3_:Aside0 ((w35.setCell ⟨za,0,none⟩ (.int .i64 (wrap64 (zg+(wrap64 ((wrap64 ((rd yc a1)-1))*(rd yb a1))))))).heap[zl]?=some (.cells #[.int .i64 0,.slice none 0 0,.slice none 0 0] 44 (0,0))):=⟨by(with_reducible repeat(first|apply bN|apply bD|apply bA));refine blk_far ?_ zo.out _;(with_reducible repeat(first|apply bN|apply bD|apply bA));exact zc.out⟩
 have n4_:Aside0 ((w35.setCell ⟨za,0,none⟩ (.int .i64 (wrap64 (zg+(wrap64 ((wrap64 ((rd yc a1)-1))*(rd yb a1))))))).heap[za]?=some (.cells #[.int .i64 (wrap64 (zg+(wrap64 ((wrap64 ((rd yc a1)-1))*(rd yb a1))))),.slice zq zj.length zr,.slice zw zh.length zs] 44 (0,0))):=⟨by(with_reducible repeat(first|apply bN|apply bD|apply bA));refine blk_put (cs:=#[.int .i64 zg,.slice zq zj.length zr,.slice zw zh.length zs]) ?_ 0 _ rfl;(with_reducible repeat(first|apply bN|apply bD|apply bA));exact zd.out⟩
 have n5_:Aside0 (Below w.heap.size w (w35.setCell ⟨za,0,none⟩ (.int .i64 (wrap64 (zg+(wrap64 ((wrap64 ((rd yc a1)-1))*(rd yb a1)))))))):=⟨qB3 HB zf zk z2⟩
 (try clear zi)
 (try clear ze)
 (try clear zb)
 (try clear zc)
 (try clear zd)
 (try clear HB)
 generalize (w35.setCell ⟨za,0,none⟩ (.int .i64 (wrap64 (zg+(wrap64 ((wrap64 ((rd yc a1)-1))*(rd yb a1)))))))=w37 at n0_ n1_ n2_ n3_ n4_ n5_ ⊢
 have zi:=n0_
 have ze:=n1_
 have zb:=n2_
 have zc:=n3_
 have zd:=n4_
 have HB:=n5_
 clear n0_ n1_ n2_ n3_ n4_ n5_
 replace zi:=aM (Kd.R_drew zi.out)
 replace ze:=aM (Kd.R_drew ze.out)
 replace zb:=aM (blk_drew zb.out)
 replace zc:=aM (blk_drew zc.out)
 replace zd:=aM (blk_drew zd.out)
 replace HB:=aM (below_drew1 HB.out)
 obtain⟨yx,y4,yi,p245,q245⟩:=zI z1.out a1
 have yq:=yi
 obtain rfl:yj=yx:=(by injection y4)
 replace yi:=zW HB yi
 have y5:0≤(a1:Int):=oD
 have y6:(a1:Int)<((zh.length:Int):Int):=oD
 obtain⟨yf,co23,zag,zah,gl23,cl23,HG23⟩:=Kd.R_form ze.out (by omega)
 (first|cases zag|(injection zag with ea_ en_ ec_;(first|subst ea_|(injection ea_ with ea_;subst ea_));subst ec_;clear en_))
 have GB23:=aM zah
 have GG23:=aM HG23
 clear zah gl23 HG23
 obtain⟨yv,hf23_0⟩:=Kd.R_celln 0 ze.out (a1:Int) y5 y6
 have HP39:=Kd.R_putn ze.out (a1:Int) (wrap64 (-(rd yb a1)))
 rw[← Ny246.out] at HP39
 have HQ39:=aM HP39
 clear HP39
 refine sT 11 [10] (fun w'=>w'.cell? ⟨za,0,none⟩=some (.int .i64 (wrap64 (zg+(wrap64 ((wrap64 ((rd yc a1)-1))*(rd yb a1))))))∧w'.cell? ⟨za,1,none⟩=some (.slice zq zj.length zr)∧w'.cell? ⟨za,2,none⟩=some (.slice (some ⟨yf,0,none⟩) zh.length zs)∧w'.cell? ⟨zt,0,none⟩=some (.int .i64 yd)∧w'.cell? ⟨zt,1,none⟩=some (.slice (some ye) yc.length yg)∧w'.cell? ⟨zt,2,none⟩=some (.slice (some yj) yb.length yh)∧w'.cell? (yj.add (a1).toNat)=some (.int .i64 (rd yb a1))) fcu.tab9 fcu.bits9 ⟨(blk_cell zd.out 0).trans rfl,(blk_cell zd.out 1).trans rfl,(blk_cell zd.out 2).trans rfl,(blk_cell zb.out 0).trans rfl,(blk_cell zb.out 1).trans rfl,(blk_cell zb.out 2).trans rfl,(zW HB yq)⟩ (fun hHeld HT_ HW_=>?_)
 generalize w37.drew=w38 at zi ze zb zc zd HB GG23 HQ39 hf23_0 yv yi hHeld ⊢
 refine pQ 0 43 11 1 HT_ ?_
 refine pQ 2 45 11 5 HT_ ?_
 refine pQ 3 46 11 13 HT_ ?_
 refine pQ 5 48 11 45 HT_ ?_
 refine pU7 1 44 11 47 HT_ HW_ hHeld ?_
 refine pU7 4 47 11 63 HT_ HW_ hHeld ?_
 refine pQ 6 49 11 127 HT_ ?_
 refine pU7 7 50 11 255 HT_ HW_ hHeld ?_
 refine pQ 8 51 11 511 HT_ ?_
 refine pQ 9 52 11 1023 HT_ ?_
 refine last_ (i:=10) (N:=none) (bm 11 2047) rfl rfl (one_of HT_.out (by kernel_rfl)) (by decide) (fun K hK=>?_)
 refine skip_ (w1:=?_) (by rfl) rfl ?_ ?_
 rotate_left
 ·go_simp
  rfl
 refine hK.out _ _ ?_
 clear hK K
 refine dN HT_ ?_
 have n0_:Aside0 (Kd.R (Kd.int .i64) 3 (w38.setCell ⟨yf,(a1:Int).toNat,none⟩ (.int .i64 (wrap64 (-(rd yb a1))))) w.heap.size (fun k_=>some k_≠(.slice (some ⟨yf,0,none⟩) zh.length zs:Value).ownBlock) (.slice zq zj.length zr) zj):=⟨by(with_reducible repeat(first|apply rA|apply rN|apply rD));exact Kd.R_mono (Kd.R_far (p:=⟨yf,(a1:Int).toNat,none⟩) (Kd.R_mono zi.out (fun k_ hk=>(⟨hk,fun e_=>hk (by rw[e_];rfl)⟩:_∧k_≠yf))) (fun _ hk=>hk.2) (.int .i64 (wrap64 (-(rd yb a1))))) (fun _ hk=>hk.1)⟩
 have n1_:Aside0 (Kd.R (Kd.int .i64) 3 (w38.setCell ⟨yf,(a1:Int).toNat,none⟩ (.int .i64 (wrap64 (-(rd yb a1))))) w.heap.size (fun k_=>some k_≠(.slice zq zj.length zr:Value).ownBlock) (.slice (some ⟨yf,0,none⟩) zh.length zs) zaf):=⟨pR HQ39.out⟩
 have n2_:Aside0 ((w38.setCell ⟨yf,(a1:Int).toNat,none⟩ (.int .i64 (wrap64 (-(rd yb a1))))).heap[zt]?=some (.cells #[.int .i64 yd,.slice (some ye) yc.length yg,.slice (some yj) yb.length yh] 44 (0,0))):=⟨by(with_reducible repeat(first|apply bN|apply bD|apply bA));refine blk_far ?_ (by have h_:=Kd.R_ne ze.out zb.out (by decide);intro e_;exact h_ (by rw[e_];rfl)) _;(with_reducible repeat(first|apply bN|apply bD|apply bA));exact zb.out⟩
 have n3_:Aside0 ((w38.setCell ⟨yf,(a1:Int).toNat,none⟩ (.int .i64 (wrap64 (-(rd yb a1))))).heap[zl]?=some (.cells #[.int .i64 0,.slice none 0 0,.slice none 0 0] 44 (0,0))):=⟨by(with_reducible repeat(first|apply bN|apply bD|apply bA));refine blk_far ?_ (by have h_:=Kd.R_ne ze.out zc.out (by decide);intro e_;exact h_ (by rw[e_];rfl)) _;(with_reducible repeat(first|apply bN|apply bD|apply bA));exact zc.out⟩
 have n4_:Aside0 ((w38.setCell ⟨yf,(a1:Int).toNat,none⟩ (.int .i64 (wrap64 (-(rd yb a1))))).heap[za]?=some (.cells #[.int .i64 (wrap64 (zg+(wrap64 ((wrap64 ((rd yc a1)-1))*(rd yb a1))))),.slice zq zj.length zr,.slice (some ⟨yf,0,none⟩) zh.length zs] 44 (0,0))):=⟨by(with_reducible repeat(first|apply bN|apply bD|apply bA));refine blk_far ?_ (by have h_:=Kd.R_ne ze.out zd.out (by decide);intro e_;exact h_ (by rw[e_];rfl)) _;(with_reducible repeat(first|apply bN|apply bD|apply bA));exact zd.out⟩
 have n5_:Aside0 (Below w.heap.size w (w38.setCell ⟨yf,(a1:Int).toNat,none⟩ (.int .i64 (wrap64 (-(rd yb a1)))))):=⟨qB4 HB GB23 zf zk z2⟩
 (try clear zi)
 (try clear ze)
 (try clear zb)
 (try clear zc)
 (try clear zd)
 (try clear HB)
 generalize (w38.setCell ⟨yf,(a1:Int).toNat,none⟩ (.int .i64 (wrap64 (-(rd yb a1)))))=w40 at n0_ n1_ n2_ n3_ n4_ n5_ ⊢
 have zi:=n0_
 have ze:=n1_
 have zb:=n2_
 have zc:=n3_
 have zd:=n4_
 have HB:=n5_
 clear n0_ n1_ n2_ n3_ n4_ n5_
 have hcz41:=blk3 zd.out
 have hcz42:=blk3 zc.out
 try go_wp2
 refine bodyPost_ret (results_ct rfl _ _ zl 44 #[.int .i64 (wrap64 (zg+(wrap64 ((wrap64 ((rd yc a1)-1))*(rd yb a1))))),.slice zq zj.length zr,.slice (some ⟨yf,0,none⟩) zh.length zs] (0,0) _ rfl (by exact P3 zc) Try.underlying44 rfl (by kernel_rfl)) rfl ?_
 exact⟨_,_,pE,by(with_reducible repeat(first|apply rA|apply rN|apply rD));exact Kd.R_mono (Kd.R_far (p:=⟨zl,2,none⟩) (Kd.R_far (p:=⟨zl,1,none⟩) (Kd.R_far (p:=⟨zl,0,none⟩) (Kd.R_types zi.out zc.out (by decide)) (fun _ hk=>hk.2) (.int .i64 (wrap64 (zg+(wrap64 ((wrap64 ((rd yc a1)-1))*(rd yb a1))))))) (fun _ hk=>hk.2) (.slice zq zj.length zr)) (fun _ hk=>hk.2) (.slice (some ⟨yf,0,none⟩) zh.length zs)) (fun _ hk=>hk.1),by(with_reducible repeat(first|apply rA|apply rN|apply rD));exact Kd.R_mono (Kd.R_far (p:=⟨zl,2,none⟩) (Kd.R_far (p:=⟨zl,1,none⟩) (Kd.R_far (p:=⟨zl,0,none⟩) (Kd.R_types ze.out zc.out (by decide)) (fun _ hk=>hk.2) (.int .i64 (wrap64 (zg+(wrap64 ((wrap64 ((rd yc a1)-1))*(rd yb a1))))))) (fun _ hk=>hk.2) (.slice zq zj.length zr)) (fun _ hk=>hk.2) (.slice (some ⟨yf,0,none⟩) zh.length zs)) (fun _ hk=>hk.1),qB3 HB zf zk z2⟩
end Go.Proofs.Ytcdiobcldhiemaa.Q
