/- Texts of the proof of MoveDims, part 4: what functions of the program compute, and that they compute it. -/
import Derived.Test.YtcdiobcldhiemaaKMoveDimsW
import Derived.Deep.Slices
import Derived.Test.YtcdiobcldhiemaaKMoveDims3
set_option maxHeartbeats 8000000
set_option maxRecDepth 100000
namespace Go.Proofs.Ytcdiobcldhiemaa.S
open Go.RowKit Go.Proofs.Ytcdiobcldhiemaa.Q Go.Proofs.YtcdiobcldhiemaaW.PrintWords Go.Proofs.YtcdiobcldhiemaaW.PrintLast Go.Proofs.YtcdiobcldhiemaaW.PrintMore
set_option linter.unusedVariables false
set_option linter.unusedSimpArgs false
theorem w64 {x:Int} (h0:-9223372036854775808≤x)(h1:x≤9223372036854775807):wrap64 x=x:=by
 unfold wrap64;omega
theorem down (P:Nat→Prop)(n:Nat)(h0:P n)(hs:∀ i,i < n→P (i + 1)→P i):∀ i,i≤n→P i:=by
 intro i hi
 obtain⟨d,rfl⟩:∃ d,n=i + d:=⟨n - i,by omega⟩
 clear hi
 induction d generalizing i with
 | zero=>exact h0
 | succ d ih =>
  apply hs i (by omega)
  exact ih (i + 1) (by rw [show i + 1 + d=i + (d + 1) by omega];exact h0) (fun j hj hp=>hs j (by omega) hp)
theorem rdg (l:List Int)(i:Nat)(h:i < l.length):rd l (i:Int)=l[i]:=by
 simp [rd,List.getD_eq_getElem?_getD,List.getElem?_eq_getElem h]
theorem rdb (l:List Bool)(i:Nat)(h:i < l.length):rdOf false l (i:Int)=l[i]:=by
 simp [rdOf,List.getD_eq_getElem?_getD,List.getElem?_eq_getElem h]
theorem dropc (l:List Int)(i:Nat)(h:i < l.length):l.drop i=rd l (i:Int) :: l.drop (i + 1):=by
 rw [rdg l i h];exact(List.drop_eq_getElem_cons h)
theorem nx (i n:Nat)(h:i < n)(hn:n≤1000000000):wrap64 ((i:Int) + 1)=((i + 1:Nat):Int):=by
 rw [w64 (by omega) (by omega)];omega
theorem ints_l (a b:List Int)(hl:a.length=b.length)(hn:a.length≤1000000000):∀ i,i≤a.length →
  Ev (fun k=>fae.l0 k a b (a.length:Int) (i:Int)) (decide (a.drop i=b.drop i)):=by
 apply down
 ·refine Ev.step (f:=fun _=>some true) (fun k=>?_) ?_
  ·rw [fae.l0,iN (by omega)]
  ·rw [List.drop_length,hl,List.drop_length];exact Ev.now true
 ·intro i hi ih
  rw [dropc a i hi,dropc b i (by omega)]
  by_cases e:rd a (i:Int)=rd b (i:Int)
  ·rw [show decide (rd a (i:Int) :: a.drop (i + 1)=rd b (i:Int) :: b.drop (i + 1))=decide (a.drop (i + 1)=b.drop (i + 1)) by simp [e]]
   refine Ev.step (fun k=>?_) ih
   rw [fae.l0,ip (by omega),ip (by omega),ip (by omega),ip (by omega),ip e,nx i _ hi hn]
  ·rw [show decide (rd a (i:Int) :: a.drop (i + 1)=rd b (i:Int) :: b.drop (i + 1))=false by simp [e]]
   refine Ev.step (fun k=>?_) (Ev.now false)
   rw [fae.l0,ip (by omega),ip (by omega),ip (by omega),ip (by omega),iN e]
theorem ints (a b:List Int)(hn:a.length≤1000000000):Ev (fun k=>fae.f k a b) (decide (a=b)):=by
 by_cases hl:a.length=b.length
 ·refine Ev.congr (fun k=>?_) (by have:=ints_l a b hl hn 0 (by omega);simpa using this)
  rw [fae.f,ip (by omega)]
 ·rw [show decide (a=b)=false from decide_eq_false (fun e=>hl (by rw [e]))]
  refine Ev.congr (fun k=>?_) (Ev.now false)
  rw [fae.f,iN (by omega)]
theorem shape_check (d:List Int):fbq.f d=some (Gr.chk d):=rfl
theorem check_1 (d:List Int)(hok:∀ x ∈ d,1≤x)(hn:d.length≤6):∀ i,i≤d.length→Gr.prod (d.take i)≤64 →
  Ev (fun k=>fag.l1 k d (Gr.prod (d.take i)) (d.length:Int) (i:Int)) (if 64 < Gr.prod d then 12 else 0):=by
 apply down
 ·intro h
  rw [List.take_length] at h ⊢
  rw [iN (by omega)]
  refine Ev.step (fun k=>?_) (Ev.now 0)
  rw [fag.l1,iN (by omega)]
 ·intro i hi ih h
  have hp:=Gr.prod_pos (d.take i) (fun x hx=>hok x (List.mem_of_mem_take hx))
  have hs:=Gr.prod_take_succ d i hi
  have h1:1≤d[i]:=hok _ (List.getElem_mem hi)
  have hle:=Gr.prod_take_le d hok (i + 1)
  have hge:d[i]≤Gr.prod (d.take i) * d[i]:=by
   have:1 * d[i]≤Gr.prod (d.take i) * d[i]:=Int.mul_le_mul_of_nonneg_right hp (by omega)
   omega
  by_cases e:64 < d[i]
  ·rw [ip (by omega)]
   refine Ev.step (fun k=>?_) (Ev.now 12)
   rw [fag.l1,ip (by omega),ip (by omega),ip (by omega),rdg d i hi,ip (by omega)]
  ·have hb:Gr.prod (d.take i) * d[i]≤64 * 64:=Int.mul_le_mul h (by omega) (by omega) (by omega)
   by_cases e2:64 < Gr.prod (d.take i) * d[i]
   ·rw [ip (by omega)]
    refine Ev.step (fun k=>?_) (Ev.now 12)
    rw [fag.l1,ip (by omega),ip (by omega),ip (by omega),rdg d i hi,iN (by omega),w64 (by omega) (by omega),ip (by omega)]
   ·refine Ev.step (fun k=>?_) (ih (by omega))
    rw [fag.l1,ip (by omega),ip (by omega),ip (by omega),rdg d i hi,iN (by omega),w64 (by omega) (by omega),iN (by omega),nx i _ hi (by omega),← hs]
theorem check_0 (d:List Int)(hn:d.length≤6):∀ i,i≤d.length→(∀ x ∈ d.take i,1≤x) →
  Ev (fun k=>fag.l0 k d (d.length:Int) (i:Int)) (Gr.chk d):=by
 apply down
 ·intro h
  rw [List.take_length] at h
  have e:Gr.chk d=if 64 < Gr.prod d then 12 else 0:=by
   unfold Gr.chk
   rw [iN (by omega),iN]
   rw [Bool.not_eq_true,List.any_eq_false]
   intro x hx
   have:=h x hx
   simp;omega
  rw [e]
  refine Ev.step (fun k=>?_) (check_1 d h hn 0 (by omega) (by simp [Gr.prod]))
  rw [fag.l0,iN (by omega)];simp [Gr.prod]
 ·intro i hi ih h
  by_cases e:d[i] < 1
  ·have e8:Gr.chk d=8:=by
    unfold Gr.chk
    rw [iN (by omega),ip]
    rw [List.any_eq_true]
    exact⟨d[i],List.getElem_mem hi,by simpa using e⟩
   rw [e8]
   refine Ev.step (fun k=>?_) (Ev.now 8)
   rw [fag.l0,ip (by omega),ip (by omega),ip (by omega),rdg d i hi,ip (by omega)]
  ·refine Ev.step (fun k=>?_) (ih ?_)
   ·rw [fag.l0,ip (by omega),ip (by omega),ip (by omega),rdg d i hi,iN (by omega),nx i _ hi (by omega)]
   ·intro x hx
    rw [List.take_succ_eq_append_getElem hi,List.mem_append] at hx
    rcases hx with hx|hx
    ·exact h x hx
    ·simp at hx;omega
theorem ref_check (d:List Int):Ev (fun k=>fag.f k d) (Gr.chk d):=by
 by_cases h:6 < d.length
 ·have e:Gr.chk d=9:=by unfold Gr.chk;rw [ip h]
  rw [e]
  refine Ev.congr (fun k=>?_) (Ev.now 9)
  rw [fag.f,ip (by omega)]
 ·refine Ev.congr (fun k=>?_) (check_0 d (by omega) 0 (by omega) (by simp))
  rw [fag.f,iN (by omega)];rfl
theorem prod_step {d:List Int} (hok:Gr.chk d=0)(i:Nat)(hi:i < d.length) :
  1≤Gr.prod (d.take i)∧Gr.prod (d.take i) * d[i]=Gr.prod (d.take (i + 1))∧Gr.prod (d.take (i + 1))≤64∧1≤Gr.prod (d.take (i + 1)):=by
 obtain⟨h6,h1,h2⟩:=Gr.chk_ok hok
 have:=Gr.prod_take_le d h1 (i + 1)
 exact⟨Gr.prod_pos _ (fun x hx=>h1 x (List.mem_of_mem_take hx)),(Gr.prod_take_succ d i hi).symm,by omega,Gr.prod_pos _ (fun x hx=>h1 x (List.mem_of_mem_take hx))⟩
theorem count_l (d:List Int)(hok:Gr.chk d=0):∀ i,i≤d.length →
  Ev (fun k=>fbr.l0 k (Gr.prod (d.take i)) d (d.length:Int) (i:Int)) (Gr.prod d):=by
 obtain⟨h6,h1,h2⟩:=Gr.chk_ok hok
 apply down
 ·rw [List.take_length]
  refine Ev.step (fun k=>?_) (Ev.now _)
  rw [fbr.l0,iN (by omega)]
 ·intro i hi ih
  obtain⟨p1,p2,p3,p4⟩:=prod_step hok i hi
  refine Ev.step (fun k=>?_) ih
  rw [fbr.l0,ip (by omega),ip (by omega),ip (by omega),rdg d i hi,w64 (by omega) (by omega),nx i _ hi (by omega),p2]
theorem shape_count (d:List Int):Ev (fun k=>fbr.f k d) (Gr.cnt d):=by
 unfold Gr.cnt
 by_cases h:Gr.chk d=0
 ·rw [ip h]
  refine Ev.congr (fun k=>?_) (count_l d h 0 (by omega))
  rw [fbr.f,shape_check,Option.bind_some,ip h];simp [Gr.prod]
 ·rw [iN h]
  refine Ev.congr (fun k=>?_) (Ev.now 0)
  rw [fbr.f,shape_check,Option.bind_some,iN h]
theorem steps_set (d x:List Int)(i:Nat)(hi:i < d.length)(hl:x.length=d.length)(hx:x.drop (i + 1)=Gr.stp (d.drop (i + 1))) :
  (x.set i (Gr.prod (d.drop (i + 1)))).drop i=Gr.stp (d.drop i):=by
 rw [List.drop_eq_getElem_cons (by simp;omega),List.drop_eq_getElem_cons hi]
 simp only [List.getElem_set_self,Gr.stp,List.cons.injEq,true_and]
 rw [List.drop_set_of_lt (by omega)]
 exact hx
theorem steps_l (d:List Int)(hok:Gr.chk d=0):∀ i,i≤d.length→∀ x:List Int,x.length=d.length→x.drop i=Gr.stp (d.drop i) →
  Ev (fun k=>fbu.l0 k d x (Gr.prod (d.drop i)) ((i:Int) - 1)) (Gr.stp d):=by
 obtain⟨h6,h1,h2⟩:=Gr.chk_ok hok
 intro i
 induction i with
 | zero =>
  intro hi x hl hx
  simp at hx
  subst hx
  refine Ev.step (fun k=>?_) (Ev.now _)
  rw [fbu.l0,iN (by omega)]
 | succ i ih =>
  intro hi x hl hx
  have hlt:i < d.length:=by omega
  have hd:d.drop i=d[i] :: d.drop (i + 1):=List.drop_eq_getElem_cons hlt
  obtain⟨q6,q1,q2⟩:=Gr.chk_ok (Gr.ok_drop hok i)
  have q3:=Gr.prod_pos _ q1
  have hp:Gr.prod (d.drop i)=Gr.prod (d.drop (i + 1)) * d[i]:=by rw [hd];simp only [Gr.prod];rw [Int.mul_comm]
  refine Ev.step (fun k=>?_) (ih (by omega) (x.set i (Gr.prod (d.drop (i + 1)))) (by simp [hl]) (steps_set d x i hlt hl hx))
  rw [fbu.l0,show (((i + 1:Nat):Int) - 1)=(i:Int) by omega,ip (by omega),ip (by omega),ip (by omega),ip (by omega),rdg d i hlt,← hp,w64 (by omega) (by omega),w64 (by omega) (by omega),Int.toNat_natCast]
theorem shape_steps (d:List Int):Ev (fun k=>fbu.f k d) (Gr.steps d):=by
 unfold Gr.steps
 by_cases h:Gr.chk d=0
 ·rw [ip h]
  obtain⟨h6,h1,h2⟩:=Gr.chk_ok h
  refine Ev.congr (fun k=>?_) (steps_l d h d.length (by omega) (List.replicate d.length 0) (by simp) (by simp [Gr.stp]))
  rw [fbu.f,shape_check,Option.bind_some,ip h,ip (by omega),ip (by simp;omega),w64 (by omega) (by omega)]
  simp [Gr.prod]
 ·rw [iN h]
  refine Ev.congr (fun k=>?_) (Ev.now _)
  rw [fbu.f,shape_check,Option.bind_some,iN h]
theorem has_l (l:List Int) (x:Int)(hn:l.length≤1000000000):∀ i,i≤l.length →
  Ev (fun k=>fai.l0 k l x (l.length:Int) (i:Int)) ((l.drop i).contains x):=by
 apply down
 ·rw [List.drop_length]
  refine Ev.step (fun k=>?_) (Ev.now _)
  rw [fai.l0,iN (by omega)];rfl
 ·intro i hi ih
  rw [dropc l i hi,List.contains_cons]
  by_cases e:rd l (i:Int)=x
  ·rw [show (x == rd l (i:Int))=true by simp [e],Bool.true_or]
   refine Ev.step (fun k=>?_) (Ev.now true)
   rw [fai.l0,ip (by omega),ip (by omega),ip (by omega),ip e]
  ·rw [show (x == rd l (i:Int))=false by simp;exact fun h=>e h.symm,Bool.false_or]
   refine Ev.step (fun k=>?_) ih
   rw [fai.l0,ip (by omega),ip (by omega),ip (by omega),iN e,nx i _ hi hn]
theorem has (l:List Int) (x:Int)(hn:l.length≤1000000000):Ev (fun k=>fai.f k l x) (l.contains x):=by
 exact has_l l x hn 0 (by omega)
theorem contains_snoc (s:List Int) (a x:Int):(s ++ [a]).contains x=(s.contains x || x == a):=by
 simp [List.contains_eq_mem,List.mem_append,Bool.decide_or]
 rfl
theorem marks_set (r:Nat)(s:List Int) (a:Int)(h0:0≤a)(h1:a < r):(Gr.marks r s).set a.toNat true=Gr.marks r (s ++ [a]):=by
 apply List.ext_getElem (by simp [Gr.marks])
 intro j hj hj2
 simp only [Gr.marks,List.getElem_set,List.getElem_map,List.getElem_range,contains_snoc]
 by_cases e:a.toNat=j
 ·rw [ip e,show ((j:Int) == a)=true by simp;omega,Bool.or_true]
 ·rw [iN e,show ((j:Int) == a)=false by simp;omega,Bool.or_false]
theorem marks_at (r:Nat)(s:List Int) (a:Int)(h0:0≤a)(h1:a < r):rdOf false (Gr.marks r s) a=s.contains a:=by
 obtain⟨n,rfl⟩:=Int.eq_ofNat_of_zero_le h0
 rw [rdb _ n (by simp [Gr.marks];omega)]
 simp [Gr.marks]
theorem marks_length (r:Nat)(s:List Int):(Gr.marks r s).length=r:=by simp [Gr.marks]
theorem mks_length (r:Nat)(s:List Int):(Gr.mks r s).length=r:=by simp [Gr.mks]
theorem mks_of_ne (r:Nat)(l:List Int)(h:l≠[]):Gr.mks r l=Gr.marks r l:=by
 unfold Gr.mks Gr.marks
 rw [show l.isEmpty=false by cases l <;> simp_all]
 simp
theorem axes_1 (r:Nat)(hr:r≤6)(x:List Bool)(hx:x.length=r):∀ i,i≤r→(x.take i=List.replicate i true) →
  Ev (fun k=>fbp.l1 k x (r:Int) (i:Int)) (List.replicate r true,0):=by
 intro i hi
 obtain⟨d,hd⟩:∃ d,r=i + d:=⟨r - i,by omega⟩
 induction d generalizing i x with
 | zero =>
  intro h
  have:i=x.length:=by omega
  subst this
  rw [List.take_length] at h
  refine Ev.step (fun k=>?_) (Ev.now _)
  rw [fbp.l1,iN (by omega),h,hx]
 | succ d ih =>
  intro h
  refine Ev.step (fun k=>?_) (ih (x.set i true) (by simp [hx]) (i + 1) (by omega) (by omega) ?_)
  ·rw [fbp.l1,ip (by omega),ip (by omega),ip (by omega),Int.toNat_natCast,nx i r (by omega) (by omega)]
  ·rw [List.take_succ_eq_append_getElem (by simp;omega),List.take_set_of_le (by omega),h,List.getElem_set_self,List.replicate_succ']
theorem axes_0 (r:Nat)(hr:r≤6)(l:List Int)(hn:l.length≤1000000000):∀ i,i≤l.length →
  Ev (fun k=>fbp.l0 k (r:Int) l (Gr.marks r (l.take i)) l (l.length:Int) (i:Int)) (if Gr.axv r (l.take i) (l.drop i)=true then(Gr.mks r l,0)else([],10)):=by
 apply down
 ·rw [List.take_length,List.drop_length]
  rw [ip (by rfl)]
  by_cases e:l=[]
  ·subst e
   have:=axes_1 r hr (Gr.marks r []) (marks_length _ _) 0 (by omega) (by simp)
   rw [show Gr.mks r []=List.replicate r true by
    unfold Gr.mks
    apply List.ext_getElem (by simp)
    intro j _ _;simp]
   refine Ev.step (fun k=>?_) this
   rw [fbp.l0,iN (by simp),ip (by simp),marks_length];rfl
  ·rw [mks_of_ne r l e]
   have h0:¬ ((l.length:Int)=0):=by
    intro h;apply e;apply List.eq_nil_of_length_eq_zero;omega
   refine Ev.step (fun k=>?_) (Ev.now _)
   rw [fbp.l0,iN (by omega),iN h0]
 ·intro i hi ih
  rw [dropc l i hi,Gr.axv]
  by_cases h1:rd l (i:Int) < 0
  ·rw [iN (by simp;omega)]
   refine Ev.step (fun k=>?_) (Ev.now _)
   rw [fbp.l0,ip (by omega),ip (by omega),ip (by omega),ip h1]
  ·by_cases h2:(r:Int)≤rd l (i:Int)
   ·rw [iN (by simp;omega)]
    refine Ev.step (fun k=>?_) (Ev.now _)
    rw [fbp.l0,ip (by omega),ip (by omega),ip (by omega),iN h1,ip h2]
   ·have ha:=marks_at r (l.take i) (rd l (i:Int)) (by omega) (by omega)
    by_cases h3:(l.take i).contains (rd l (i:Int))=true
    ·rw [h3,iN (by simp)]
     refine Ev.step (fun k=>?_) (Ev.now _)
     rw [fbp.l0,ip (by omega),ip (by omega),ip (by omega),iN h1,iN h2,ip (by omega),ip (by rw [marks_length];omega),ha,ip h3]
    ·have e:l.take (i + 1)=l.take i ++ [rd l (i:Int)]:=by rw [List.take_succ_eq_append_getElem hi,rdg l i hi]
     rw [e] at ih
     rw [show (decide (0≤rd l (i:Int)) && decide (rd l (i:Int) < (r:Int)) && !((l.take i).contains (rd l (i:Int))))=true by simp [h3];simp at h3;exact⟨by omega,h3⟩,Bool.true_and]
     refine Ev.step (fun k=>?_) ih
     rw [fbp.l0,ip (by omega),ip (by omega),ip (by omega),iN h1,iN h2,ip (by omega),ip (by rw [marks_length];omega),ha,iN h3,marks_set r _ _ (by omega) (by omega),nx i _ hi hn]
theorem shape_axes (r:Int)(l:List Int)(hn:l.length≤1000000000):Ev (fun k=>fbp.f k r l) (Gr.axs r l):=by
 unfold Gr.axs
 by_cases h0:r < 0
 ·rw [ip (.inl h0)]
  refine Ev.congr (f:=fun k=>fbp.j0 k r l true) (fun k=>by rw [fbp.f,ip h0]) ?_
  refine Ev.step (fun k=>?_) (Ev.now _)
  rw [fbp.j0,ip rfl]
 ·refine Ev.congr (f:=fun k=>fbp.j0 k r l (decide (r > 6))) (fun k=>by rw [fbp.f,iN h0]) ?_
  by_cases h6:6 < r
  ·rw [ip (.inr h6)]
   refine Ev.step (fun k=>?_) (Ev.now _)
   rw [fbp.j0,ip (by simpa using h6)]
  ·rw [iN (by omega)]
   obtain⟨n,rfl⟩:=Int.eq_ofNat_of_zero_le (show 0≤r by omega)
   have:=axes_0 n (by omega) l hn 0 (by omega)
   rw [List.take_zero,List.drop_zero] at this
   refine Ev.step (fun k=>?_) this
   rw [fbp.j0,iN (by simp;omega),ip (by omega),ip (by simp;omega),Int.toNat_natCast]
   rw [show Gr.marks n []=List.replicate n false by
    unfold Gr.marks
    apply List.ext_getElem (by simp)
    intro j _ _;simp]
   rfl
theorem ref_axes_1 (r:Nat)(hr:r≤6)(l:List Int)(hn:l.length≤1000000000):∀ i,i≤r →
  Ev (fun k=>faf.l1 k l ((Gr.mks r l).take i) (r:Int) (i:Int)) (Gr.mks r l,0):=by
 apply down
 ·rw [List.take_of_length_le (by rw [mks_length];omega)]
  refine Ev.step (fun k=>?_) (Ev.now _)
  rw [faf.l1,iN (by omega)]
 ·intro i hi ih
  have e:(Gr.mks r l).take (i + 1)=(Gr.mks r l).take i ++ [l.isEmpty || l.contains (i:Int)]:=by
   rw [List.take_succ_eq_append_getElem (by rw [mks_length];exact hi)]
   simp [Gr.mks]
  rw [e] at ih
  have hl:((Gr.mks r l).take i).length < 140737488355328:=by rw [List.length_take,mks_length];omega
  by_cases h:l=[]
  ·subst h
   refine Ev.step (fun k=>?_) ih
   rw [faf.l1,ip (by omega),ip (by simp),ip hl,nx i r hi (by omega)];rfl
  ·have h0:¬ ((l.length:Int)=0):=by
    intro h2;apply h;apply List.eq_nil_of_length_eq_zero;omega
   rw [show l.isEmpty=false by cases l <;> simp_all,Bool.false_or] at ih
   refine Ev.step (f:=fun k=>(fai.f k l (i:Int)).bind fun t142=>faf.l1 k l ((Gr.mks r l).take i ++ [t142]) (r:Int) ((i + 1:Nat):Int)) (fun k=>?_) (Ev.bind (has l _ hn) ih)
   rw [faf.l1,ip (by omega),iN h0,nx i r hi (by omega)]
   simp only [ip hl]
theorem ref_axes_0 (r:Nat)(hr:r≤6)(l:List Int)(hn:l.length≤1000000000):∀ i,i≤l.length →
  Ev (fun k=>faf.l0 k (r:Int) l (l.length:Int) (i:Int)) (if Gr.axv r (l.take i) (l.drop i)=true then(Gr.mks r l,0)else([],10)):=by
 apply down
 ·rw [List.take_length,List.drop_length,ip (by rfl)]
  refine Ev.step (fun k=>?_) (ref_axes_1 r hr l hn 0 (by omega))
  rw [faf.l0,iN (by omega)];rfl
 ·intro i hi ih
  rw [dropc l i hi,Gr.axv]
  by_cases h1:rd l (i:Int) < 0
  ·rw [iN (by simp;omega)]
   refine Ev.step (fun k=>?_) (Ev.now _)
   rw [faf.l0,ip (by omega),ip (by omega),ip (by omega),ip h1]
  ·by_cases h2:(r:Int)≤rd l (i:Int)
   ·rw [iN (by simp;omega)]
    refine Ev.step (fun k=>?_) (Ev.now _)
    rw [faf.l0,ip (by omega),ip (by omega),ip (by omega),iN h1,ip h2]
   ·refine Ev.step (f:=fun k=>(fai.f k (l.take i) (rd l (i:Int))).bind fun t138=>if t138=true then some ([],10)else faf.l0 k (r:Int) l (l.length:Int) ((i + 1:Nat):Int)) (fun k=>?_) (Ev.bind (has (l.take i) (rd l (i:Int)) (by rw [List.length_take];omega)) ?_)
    ·rw [faf.l0,ip (by omega),ip (by omega),ip (by omega),iN h1,iN h2,ip (by omega),Int.toNat_natCast,nx i _ hi hn]
    ·by_cases h3:(l.take i).contains (rd l (i:Int))=true
     ·rw [h3,iN (by simp)]
      refine Ev.congr (fun k=>?_) (Ev.now _)
      rw [ip rfl]
     ·have e:l.take (i + 1)=l.take i ++ [rd l (i:Int)]:=by rw [List.take_succ_eq_append_getElem hi,rdg l i hi]
      rw [e] at ih
      rw [show (decide (0≤rd l (i:Int)) && decide (rd l (i:Int) < (r:Int)) && !((l.take i).contains (rd l (i:Int))))=true by simp [h3];simp at h3;exact⟨by omega,h3⟩,Bool.true_and]
      refine Ev.congr (fun k=>?_) ih
      rw [iN h3]
theorem ref_axes (r:Int)(l:List Int)(hn:l.length≤1000000000):Ev (fun k=>faf.f k r l) (Gr.axs r l):=by
 unfold Gr.axs
 by_cases h0:r < 0
 ·rw [ip (.inl h0)]
  refine Ev.congr (f:=fun k=>faf.j0 k r l true) (fun k=>by rw [faf.f,ip h0]) ?_
  refine Ev.step (fun k=>?_) (Ev.now _)
  rw [faf.j0,ip rfl]
 ·refine Ev.congr (f:=fun k=>faf.j0 k r l (decide (r > 6))) (fun k=>by rw [faf.f,iN h0]) ?_
  by_cases h6:6 < r
  ·rw [ip (.inr h6)]
   refine Ev.step (fun k=>?_) (Ev.now _)
   rw [faf.j0,ip (by simpa using h6)]
  ·rw [iN (by omega)]
   obtain⟨n,rfl⟩:=Int.eq_ofNat_of_zero_le (show 0≤r by omega)
   have:=ref_axes_0 n (by omega) l hn 0 (by omega)
   rw [List.take_zero,List.drop_zero] at this
   refine Ev.step (fun k=>?_) this
   rw [faf.j0,iN (by simp;omega)];rfl
theorem axv_all (r:Int)(s l:List Int)(h:Gr.axv r s l=true):∀ a ∈ l,0≤a∧a < r:=by
 induction l generalizing s with
 | nil=>simp
 | cons x l ih =>
  simp only [Gr.axv,Bool.and_eq_true,decide_eq_true_eq] at h
  intro a ha
  rcases List.mem_cons.1 ha with rfl|ha
  ·exact⟨h.1.1.1,h.1.1.2⟩
  ·exact ih _ h.2 a ha
theorem axs_all (d l:List Int)(h:(Gr.axs d.length l).2=0):∀ a ∈ l,0≤a∧a < (d.length:Int):=by
 unfold Gr.axs at h
 split at h
 ·simp at h
 ·split at h
  ·rename_i h2;exact axv_all _ _ _ h2
  ·simp at h
theorem axs_err (d l:List Int)(hd:d.length≤6)(h:¬ (Gr.axs d.length l).2=0):Gr.axs d.length l=([],10):=by
 unfold Gr.axs at h ⊢
 rw [iN (by omega)] at h ⊢
 split
 ·rename_i h2;rw [ip h2] at h;simp at h
 ·rfl
theorem at0_rd (d:List Int) (a:Int):Gr.at0 d a=rd d a:=rfl
theorem perm_l (d l:List Int)(hall:∀ a ∈ l,0≤a∧a < (d.length:Int))(hn:l.length≤6):∀ i,i≤l.length→∀ o:List Int,o.length≤i →
  Ev (fun k=>fbs.l0 k d o l (l.length:Int) (i:Int)) (o ++ Gr.prm d (l.drop i),0):=by
 apply down
 ·intro o ho
  rw [List.drop_length]
  simp only [Gr.prm,List.map_nil,List.append_nil]
  refine Ev.step (fun k=>?_) (Ev.now _)
  rw [fbs.l0,iN (by omega)]
 ·intro i hi ih o ho
  have ha:=hall (rd l (i:Int)) (by rw [rdg l i hi];exact List.getElem_mem hi)
  rw [dropc l i hi]
  have:=ih (o ++ [rd d (rd l (i:Int))]) (by simp;omega)
  rw [List.append_assoc,List.singleton_append] at this
  refine Ev.step (fun k=>?_) this
  rw [fbs.l0,ip (by omega),ip (by omega),ip (by omega),ip (by omega),ip (by omega),ip (by omega),nx i _ hi (by omega)]
theorem ref_perm_l (d l:List Int)(hall:∀ a ∈ l,0≤a∧a < (d.length:Int))(hn:l.length≤6):∀ i,i≤l.length→∀ o:List Int,o.length≤i →
  Ev (fun k=>faj.l0 k d l o (l.length:Int) (i:Int)) (o ++ Gr.prm d (l.drop i),0):=by
 apply down
 ·intro o ho
  rw [List.drop_length]
  simp only [Gr.prm,List.map_nil,List.append_nil]
  refine Ev.step (fun k=>?_) (Ev.now _)
  rw [faj.l0,iN (by omega)]
 ·intro i hi ih o ho
  have ha:=hall (rd l (i:Int)) (by rw [rdg l i hi];exact List.getElem_mem hi)
  rw [dropc l i hi]
  have:=ih (o ++ [rd d (rd l (i:Int))]) (by simp;omega)
  rw [List.append_assoc,List.singleton_append] at this
  refine Ev.step (fun k=>?_) this
  rw [faj.l0,ip (by omega),ip (by omega),ip (by omega),ip (by omega),ip (by omega),ip (by omega),nx i _ hi (by omega)]
theorem shape_perm (d l:List Int)(hn:l.length≤1000000000):Ev (fun k=>fbs.f k d l) (Gr.perm d l):=by
 unfold Gr.perm
 by_cases h:Gr.chk d=0
 ·rw [ip h]
  have h6:=(Gr.chk_ok h).1
  by_cases hl:l.length=d.length
  ·refine Ev.congr (f:=fun k=>(fbp.f k (d.length:Int) l).bind fun bt179=>if bt179.2=0 then fbs.l0 k d ([]:List Int) l (l.length:Int) 0 else some (([]:List Int),bt179.2)) (fun k=>by rw [fbs.f,shape_check,Option.bind_some,ip h,ip (by omega)]) ?_
   refine Ev.bind (shape_axes d.length l hn) ?_
   by_cases h2:(Gr.axs d.length l).2=0
   ·simp only [ip h2]
    rw [ip ⟨hl,h2⟩]
    have:=perm_l d l (axs_all d l h2) (by omega) 0 (by omega) [] (by simp)
    rw [List.drop_zero,List.nil_append] at this
    exact this
   ·simp only [iN h2]
    rw [iN (fun hh=>h2 hh.2),axs_err d l h6 h2]
    exact Ev.now _
  ·rw [iN (fun hh=>hl hh.1)]
   refine Ev.congr (fun k=>?_) (Ev.now _)
   rw [fbs.f,shape_check,Option.bind_some,ip h,iN (by omega)]
 ·rw [iN h]
  refine Ev.congr (fun k=>?_) (Ev.now _)
  rw [fbs.f,shape_check,Option.bind_some,iN h]
theorem ref_perm (d l:List Int)(hn:l.length≤1000000000):Ev (fun k=>faj.f k d l) (Gr.perm d l):=by
 unfold Gr.perm
 refine Ev.congr (fun k=>by rw [faj.f]) (Ev.bind (ref_check d) ?_)
 by_cases h:Gr.chk d=0
 ·simp only [ip h]
  have h6:=(Gr.chk_ok h).1
  refine Ev.bind (ref_axes d.length l hn) ?_
  by_cases h2:(Gr.axs d.length l).2=0
  ·simp only [ip h2]
   by_cases hl:l.length=d.length
   ·rw [ip ⟨hl,h2⟩]
    have:=ref_perm_l d l (axs_all d l h2) (by omega) 0 (by omega) [] (by simp)
    rw [List.drop_zero,List.nil_append] at this
    refine Ev.step (fun k=>?_) this
    rw [faj.j0,iN (by simp;omega)];rfl
   ·rw [iN (fun hh=>hl hh.1)]
    refine Ev.step (fun k=>?_) (Ev.now _)
    rw [faj.j0,ip (by simp;omega)]
  ·simp only [iN h2]
   rw [iN (fun hh=>h2 hh.2)]
   refine Ev.step (fun k=>?_) (Ev.now _)
   rw [faj.j0,ip rfl]
 ·simp only [iN h]
  exact Ev.now _
theorem set_map (d:List Int)(a:Nat) (s:Int)(i:Nat)(hi:i < d.length):(d.set a s)[i]'(by simpa using hi)=if i=a then s else rd d (i:Int):=by
 rw [List.getElem_set,rdg d i hi]
 by_cases e:a=i
 ·rw [ip e,ip e.symm]
 ·rw [iN e,iN (fun h=>e h.symm)]
theorem ref_with_l (d:List Int)(a:Nat) (s:Int)(hn:d.length≤6)(ha:a < d.length):∀ i,i≤d.length →
  Ev (fun k=>fal.l0 k d (a:Int) s ((d.set a s).take i) (d.length:Int) (i:Int)) (if Gr.chk (d.set a s)=0 then(d.set a s,0)else([],Gr.chk (d.set a s))):=by
 apply down
 ·rw [List.take_of_length_le (by simp)]
  refine Ev.step (fun k=>by rw [fal.l0,iN (by omega)]) (Ev.bind (ref_check _) ?_)
  by_cases h:Gr.chk (d.set a s)=0
  ·simp only [ip h];exact Ev.now _
  ·simp only [iN h];exact Ev.now _
 ·intro i hi ih
  have e:(d.set a s).take (i + 1)=(d.set a s).take i ++ [if i=a then s else rd d (i:Int)]:=by
   rw [List.take_succ_eq_append_getElem (by simpa using hi),set_map d a s i hi]
  rw [e] at ih
  have hl:((d.set a s).take i).length < 17592186044416:=by rw [List.length_take,List.length_set];omega
  by_cases h:i=a
  ·rw [ip h] at ih
   refine Ev.step (fun k=>?_) ih
   rw [fal.l0,ip (by omega),ip (by omega),ip hl,nx i _ hi (by omega)]
  ·rw [iN h] at ih
   refine Ev.step (fun k=>?_) ih
   rw [fal.l0,ip (by omega),iN (by omega),ip (by omega),ip (by omega),ip hl,nx i _ hi (by omega)]
theorem ref_with (d:List Int) (a s:Int):Ev (fun k=>fal.f k d a s) (Gr.withd d a s):=by
 unfold Gr.withd
 refine Ev.congr (fun k=>by rw [fal.f]) (Ev.bind (ref_check d) ?_)
 by_cases h:Gr.chk d=0
 ·have h6:=(Gr.chk_ok h).1
  simp only [ip h]
  by_cases h0:a < 0
  ·rw [ip (.inl h0)]
   simp only [ip h0]
   refine Ev.step (fun k=>?_) (Ev.now _)
   rw [fal.j0,ip rfl]
  ·simp only [iN h0]
   by_cases h1:(d.length:Int)≤a
   ·rw [ip (.inr h1)]
    refine Ev.step (fun k=>?_) (Ev.now _)
    rw [fal.j0,ip (decide_eq_true h1)]
   ·rw [iN (by omega)]
    obtain⟨n,rfl⟩:=Int.eq_ofNat_of_zero_le (show 0≤a by omega)
    rw [Int.toNat_natCast]
    refine Ev.step (fun k=>?_) (ref_with_l d n s h6 (by omega) 0 (by omega))
    rw [fal.j0,iN (by simp;omega)];rfl
 ·simp only [iN h];exact Ev.now _
theorem withp (d:List Int) (a s:Int):Ev (fun k=>fbv.f k d a s) (Gr.withd d a s):=by
 unfold Gr.withd
 by_cases h:Gr.chk d=0
 ·have h6:=(Gr.chk_ok h).1
  rw [ip h]
  by_cases h0:a < 0
  ·rw [ip (.inl h0)]
   refine Ev.congr (fun k=>by rw [fbv.f,shape_check,Option.bind_some,ip h,ip h0]) ?_
   refine Ev.step (fun k=>?_) (Ev.now _)
   rw [fbv.j0,ip rfl]
  ·refine Ev.congr (fun k=>by rw [fbv.f,shape_check,Option.bind_some,ip h,iN h0]) ?_
   by_cases h1:(d.length:Int)≤a
   ·rw [ip (.inr h1)]
    refine Ev.step (fun k=>?_) (Ev.now _)
    rw [fbv.j0,ip (decide_eq_true h1)]
   ·rw [iN (by omega)]
    refine Ev.step (fun k=>?_) (Ev.now _)
    rw [fbv.j0,iN (by simp;omega),fbw.f,ip (by omega),Option.bind_some,ip (by omega),ip (by omega),Option.bind_some,shape_check,Option.bind_some]
    split <;> rfl
 ·rw [iN h]
  refine Ev.congr (fun k=>?_) (Ev.now _)
  rw [fbv.f,shape_check,Option.bind_some,iN h]
theorem ref_count_l (d:List Int)(hok:Gr.chk d=0):∀ i,i≤d.length→Ev (fun k=>fah.l0 k d (Gr.prod (d.take i)) (d.length:Int) (i:Int)) (Gr.prod d):=by
 obtain⟨h6,h1,h2⟩:=Gr.chk_ok hok
 apply down
 ·rw [List.take_length]
  refine Ev.step (fun k=>?_) (Ev.now _)
  rw [fah.l0,iN (by omega)]
 ·intro i hi ih
  have hs:=Gr.prod_take_succ d i hi
  have hle:=Gr.prod_take_le d h1 (i + 1)
  have hp:=Gr.prod_pos (d.take (i + 1)) (fun x hx=>h1 x (List.mem_of_mem_take hx))
  rw [hs] at ih hle hp
  refine Ev.step (fun k=>?_) ih
  rw [fah.l0,ip (by omega),ip (by omega),ip (by omega),rdg d i hi,w64 (by omega) (by omega),nx i _ hi (by omega)]
theorem ref_count (d:List Int):Ev (fun k=>fah.f k d) (Gr.cnt d):=by
 refine Ev.congr (fun k=>by rw [fah.f]) (Ev.bind (ref_check d) ?_)
 unfold Gr.cnt
 by_cases h:Gr.chk d=0
 ·simp only [ip h]
  have:=ref_count_l d h 0 (by omega)
  exact this
 ·simp only [iN h];exact Ev.now _
theorem rdl (l:List (List Int))(i:Nat)(h:i < l.length):rd_L1 l (i:Int)=l[i]:=by
 simp [rd_L1,List.getD_eq_getElem?_getD,List.getElem?_eq_getElem h]
theorem at_set (d x:List Int) (m:Int)(i:Nat)(hi:i < d.length)(hl:x.length=d.length)(hx:x.drop (i + 1)=Gr.dig (d.drop (i + 1)) m) :
  (x.set i (m / Gr.prod (d.drop (i + 1)) % rd d (i:Int))).drop i=Gr.dig (d.drop i) m:=by
 rw [List.drop_eq_getElem_cons (by simp;omega),dropc d i hi]
 simp only [List.getElem_set_self,Gr.dig,List.cons.injEq,true_and]
 rw [List.drop_set_of_lt (by omega)]
 exact hx
theorem at_l (d:List Int)(hok:Gr.chk d=0) (m:Int)(hm:0≤m)(hm2:m≤64):∀ i,i≤d.length→∀ x:List Int,x.length=d.length→x.drop i=Gr.dig (d.drop i) m →
  Ev (fun k=>fcn.l0 k d (m / Gr.prod (d.drop i)) x ((i:Int) - 1)) (Gr.dig d m,true):=by
 obtain⟨h6,h1,h2⟩:=Gr.chk_ok hok
 intro i
 induction i with
 | zero =>
  intro hi x hl hx
  simp at hx
  subst hx
  refine Ev.step (fun k=>?_) (Ev.now _)
  rw [fcn.l0,iN (by omega)]
 | succ i ih =>
  intro hi x hl hx
  have hlt:i < d.length:=by omega
  have hd:d.drop i=d[i] :: d.drop (i + 1):=List.drop_eq_getElem_cons hlt
  have hge:1≤d[i]:=h1 _ (List.getElem_mem hlt)
  have hle:d[i]≤64:=Gr.ok_le hok _ (List.getElem_mem hlt)
  have q3:=Gr.prod_pos (d.drop (i + 1)) (fun y hy=>h1 y (List.mem_of_mem_drop hy))
  have hp:Gr.prod (d.drop i)=Gr.prod (d.drop (i + 1)) * d[i]:=by rw [hd];simp only [Gr.prod];rw [Int.mul_comm]
  have h0:0≤m / Gr.prod (d.drop (i + 1)):=Int.ediv_nonneg hm (by omega)
  have h64:m / Gr.prod (d.drop (i + 1))≤m:=Int.ediv_le_self _ hm
  have e1:Int.tdiv (m / Gr.prod (d.drop (i + 1))) d[i]=m / Gr.prod (d.drop i):=by
   rw [Int.tdiv_eq_ediv_of_nonneg h0,hp,Int.ediv_ediv,iN (by omega),Int.sub_zero]
  have e2:Int.tmod (m / Gr.prod (d.drop (i + 1))) d[i]=m / Gr.prod (d.drop (i + 1)) % d[i]:=Int.tmod_eq_emod_of_nonneg h0
  have b0:0≤m / Gr.prod (d.drop i):=Int.ediv_nonneg hm (by have:=Gr.prod_pos (d.drop i) (fun y hy=>h1 y (List.mem_of_mem_drop hy));omega)
  have b1:m / Gr.prod (d.drop i)≤m:=Int.ediv_le_self _ hm
  refine Ev.step (fun k=>?_) (ih (by omega) (x.set i (m / Gr.prod (d.drop (i + 1)) % rd d (i:Int))) (by simp [hl]) (at_set d x m i hlt hl hx))
  rw [fcn.l0,show (((i + 1:Nat):Int) - 1)=(i:Int) by omega,ip (by omega),ip (by omega),ip (by omega),rdg d i hlt,iN (by omega),ip (by omega),e1,e2,w64 (by omega) (by omega),w64 (by omega) (by omega),Int.toNat_natCast]
theorem walk_at (d:List Int) (n:Int):Ev (fun k=>fcn.f k d n) (Gr.att d n):=by
 unfold Gr.att
 by_cases h0:n < 0
 ·rw [iN (by omega)]
  refine Ev.congr (f:=fun k=>fcn.j0 k d n true) (fun k=>by rw [fcn.f,ip h0]) ?_
  refine Ev.step (fun k=>?_) (Ev.now _)
  rw [fcn.j0,ip rfl]
 ·refine Ev.congr (f:=fun k=>(fbr.f k d).bind fun t=>fcn.j0 k d n (decide (n ≥ t))) (fun k=>by rw [fcn.f,iN h0]) ?_
  refine Ev.bind (shape_count d) ?_
  by_cases h1:n < Gr.cnt d
  ·rw [ip ⟨by omega,h1⟩]
   have hok:Gr.chk d=0:=by
    apply Decidable.byContradiction
    intro hc;unfold Gr.cnt at h1;rw [iN hc] at h1;omega
   obtain⟨c1,c2,c3⟩:=Gr.cnt_ok hok
   have h6:=(Gr.chk_ok hok).1
   have:=at_l d hok n (by omega) (by omega) d.length (by omega) (List.replicate d.length 0) (by simp) (by simp [Gr.dig])
   rw [List.drop_length] at this
   simp only [Gr.prod,Int.ediv_one] at this
   refine Ev.step (fun k=>?_) this
   rw [fcn.j0,iN (by simp;omega),ip (by omega),ip (by simp;omega),w64 (by omega) (by omega),Int.toNat_natCast]
  ·rw [iN (by omega)]
   refine Ev.step (fun k=>?_) (Ev.now _)
   rw [fcn.j0,ip (by simp;omega)]
theorem in_l (d r:List Int)(hl:r.length=d.length)(hn:d.length≤6):∀ i,i≤r.length →
  Ev (fun k=>fcp.l0 k d r (r.length:Int) (i:Int)) (Gr.inb (d.drop i) (r.drop i)):=by
 apply down
 ·rw [List.drop_length,hl,List.drop_length]
  refine Ev.step (fun k=>?_) (Ev.now _)
  rw [fcp.l0,iN (by omega)];rfl
 ·intro i hi ih
  rw [dropc d i (by omega),dropc r i hi]
  simp only [Gr.inb]
  by_cases h1:rd r (i:Int) < 0
  ·rw [show decide (0≤rd r (i:Int))=false by simp;omega,Bool.false_and,Bool.false_and]
   refine Ev.step (fun k=>?_) (Ev.now _)
   rw [fcp.l0,ip (by omega),ip (by omega),ip (by omega),ip h1]
  ·rw [show decide (0≤rd r (i:Int))=true by simp;omega,Bool.true_and]
   by_cases h2:rd d (i:Int)≤rd r (i:Int)
   ·rw [show decide (rd r (i:Int) < rd d (i:Int))=false by simp;omega,Bool.false_and]
    refine Ev.step (fun k=>?_) (Ev.now _)
    rw [fcp.l0,ip (by omega),ip (by omega),ip (by omega),iN h1,ip (by omega),ip h2]
   ·rw [show decide (rd r (i:Int) < rd d (i:Int))=true by simp;omega,Bool.true_and]
    refine Ev.step (fun k=>?_) ih
    rw [fcp.l0,ip (by omega),ip (by omega),ip (by omega),iN h1,ip (by omega),iN h2,nx i _ hi (by omega)]
theorem walk_ind (d r:List Int):Ev (fun k=>fcp.f k d r) (Gr.ind d r):=by
 unfold Gr.ind
 refine Ev.congr (fun k=>by rw [fcp.f,shape_check,Option.bind_some]) ?_
 by_cases h:Gr.chk d=0
 ·have h6:=(Gr.chk_ok h).1
  simp only [ip h]
  rw [decide_eq_true h,Bool.true_and]
  by_cases hl:r.length=d.length
  ·refine Ev.step (fun k=>?_) (in_l d r hl h6 0 (by omega))
   rw [fcp.j0,iN (by simp;omega)];rfl
  ·rw [show Gr.inb d r=false by
    apply Decidable.byContradiction
    intro hc;exact hl (Gr.inb_length (by simpa using hc))]
   refine Ev.step (fun k=>?_) (Ev.now _)
   rw [fcp.j0,ip (by simp;omega)]
 ·simp only [iN h]
  rw [decide_eq_false h,Bool.false_and]
  refine Ev.step (fun k=>?_) (Ev.now _)
  rw [fcp.j0,ip rfl]
theorem place_l (d r:List Int)(hok:Gr.chk d=0)(hi2:Gr.inb d r=true):∀ i,i≤r.length→∀ n:Int,0≤n→n * Gr.prod (d.drop i) + Gr.num (d.drop i) (r.drop i)≤64→Gr.inb (d.drop i) (r.drop i)=true →
  Ev (fun k=>fco.l0 k d n r (r.length:Int) (i:Int)) (n * Gr.prod (d.drop i) + Gr.num (d.drop i) (r.drop i),true):=by
 obtain⟨h6,h1,h2⟩:=Gr.chk_ok hok
 have hl:=Gr.inb_length hi2
 apply down
 ·intro n hn hb _
  rw [hl,List.drop_length,← hl,List.drop_length]
  simp only [Gr.prod,Gr.num,Int.mul_one,Int.add_zero]
  refine Ev.step (fun k=>?_) (Ev.now _)
  rw [fco.l0,iN (by omega)]
 ·intro i hi ih n hn hb hin
  have hq:=Gr.num_lt (d.drop (i + 1)) (r.drop (i + 1)) (fun x hx=>h1 x (List.mem_of_mem_drop hx))
  have hp:=Gr.prod_pos (d.drop (i + 1)) (fun x hx=>h1 x (List.mem_of_mem_drop hx))
  have hx1:1≤rd d (i:Int):=by rw [rdg d i (by omega)];exact h1 _ (List.getElem_mem _)
  rw [dropc d i (by omega),dropc r i hi] at hin hb ⊢
  simp only [Gr.inb,Bool.and_eq_true,decide_eq_true_eq] at hin
  obtain⟨q1,q2⟩:=hq hin.2
  simp only [Gr.prod,Gr.num] at hb ⊢
  have e:n * (rd d (i:Int) * Gr.prod (d.drop (i + 1))) + (rd r (i:Int) * Gr.prod (d.drop (i + 1)) + Gr.num (d.drop (i + 1)) (r.drop (i + 1)))=(n * rd d (i:Int) + rd r (i:Int)) * Gr.prod (d.drop (i + 1)) + Gr.num (d.drop (i + 1)) (r.drop (i + 1)):=by
   rw [Int.add_mul,← Int.mul_assoc];omega
  rw [e] at hb ⊢
  have b1:0≤n * rd d (i:Int):=Int.mul_nonneg hn (by omega)
  have b2:(n * rd d (i:Int) + rd r (i:Int)) * 1≤(n * rd d (i:Int) + rd r (i:Int)) * Gr.prod (d.drop (i + 1)):=Int.mul_le_mul_of_nonneg_left hp (by omega)
  refine Ev.step (fun k=>?_) (ih _ (by omega) hb hin.2)
  rw [fco.l0,ip (by omega),ip (by omega),ip (by omega),ip (by omega),show wrap64 (n * rd d (i:Int))=n * rd d (i:Int) from w64 (by omega) (by omega),w64 (by omega) (by omega),nx i _ hi (by omega)]
theorem walk_place (d r:List Int):Ev (fun k=>fco.f k d r) (Gr.plc d r):=by
 unfold Gr.plc
 refine Ev.congr (fun k=>by rw [fco.f]) (Ev.bind (walk_ind d r) ?_)
 by_cases h:Gr.ind d r=true
 ·simp only [ip h]
  unfold Gr.ind at h
  simp only [Bool.and_eq_true,decide_eq_true_eq] at h
  obtain⟨h6,h1,h2⟩:=Gr.chk_ok h.1
  have hb:=(Gr.num_lt d r h1 h.2)
  have:=place_l d r h.1 h.2 0 (by omega) 0 (by omega) (by simp;omega) (by simpa using h.2)
  rw [List.drop_zero,List.drop_zero,Int.zero_mul,Int.zero_add] at this
  exact this
 ·simp only [iN h]
  exact Ev.now _
theorem all_2 (d:List Int)(L:List (List Int))(i:Nat)(hi:i < d.length)(q:Nat)(hq:q < L.length)(hn:d.length≤6)(hL:L.length≤64)(hL6:∀ p ∈ L,p.length≤6)(X:Nat)(hX:X≤64)(hXd:rd d (i:Int)=(X:Int))(r:List (List Int)) :
  ∀ v,v≤X→∀ acc:List (List Int),acc.length≤64 * q + v →
  Ev (fun k=>fam.l1 k d L (i:Int) (acc ++ ((List.range (X - v)).map fun u:Nat=>L[q] ++ [((v + u:Nat):Int)])) (d.length:Int) (i:Int) (L.length:Int) ((q + 1:Nat):Int)) r →
  Ev (fun k=>fam.l2 k d L (i:Int) acc (q:Int) (d.length:Int) (i:Int) (L.length:Int) (q:Int) (rd d (i:Int)) (v:Int)) r:=by
 apply down
 ·intro acc hacc h
  simp at h
  refine Ev.step (fun k=>?_) h
  rw [fam.l2,iN (by omega),nx q _ hq (by omega)];rfl
 ·intro v hv ih acc hacc h
  have h6:=hL6 L[q] (List.getElem_mem hq)
  have e:acc ++ ((List.range (X - v)).map fun u:Nat=>L[q] ++ [((v + u:Nat):Int)])=(acc ++ [L[q] ++ [(v:Int)]]) ++ ((List.range (X - (v + 1))).map fun u:Nat=>L[q] ++ [((v + 1 + u:Nat):Int)]):=by
   rw [show X - v=(X - (v + 1)) + 1 by omega,List.range_succ_eq_map,List.map_cons,List.map_map,List.append_assoc,List.singleton_append]
   congr 2
   apply List.map_congr_left
   intro u _
   simp only [Function.comp]
   rw [show v + u.succ=v + 1 + u by omega]
  rw [e] at h
  refine Ev.step (fun k=>?_) (ih (acc ++ [L[q] ++ [(v:Int)]]) (by simp;omega) h)
  rw [fam.l2,ip (by omega),Option.bind_some,ip (by omega),ip (by omega),rdl L q hq,ip (by simp;omega),Option.bind_some,ip (by simp;omega),ip (by omega),nx v X hv (by omega),List.nil_append]
theorem all_1 (d:List Int)(L:List (List Int))(i:Nat)(hi:i < d.length)(hn:d.length≤6)(hL:L.length≤64)(hL6:∀ p ∈ L,p.length≤6)(X:Nat)(hX:X≤64)(hXd:rd d (i:Int)=(X:Int))(r:List (List Int)) :
  ∀ q,q≤L.length→∀ acc:List (List Int),acc.length≤64 * q →
  Ev (fun k=>fam.l0 k d (acc ++ (L.drop q).flatMap fun p=>(List.range X).map fun v:Nat=>p ++ [(v:Int)]) (d.length:Int) ((i + 1:Nat):Int)) r →
  Ev (fun k=>fam.l1 k d L (i:Int) acc (d.length:Int) (i:Int) (L.length:Int) (q:Int)) r:=by
 apply down
 ·intro acc hacc h
  rw [List.drop_length] at h
  simp only [List.flatMap_nil,List.append_nil] at h
  refine Ev.step (fun k=>?_) h
  rw [fam.l1,iN (by omega),nx i _ hi (by omega)]
 ·intro q hq ih acc hacc h
  rw [List.drop_eq_getElem_cons hq,List.flatMap_cons,← List.append_assoc] at h
  have:=ih _ (by simp;omega) h
  refine Ev.step (fun k=>?_) (all_2 d L i hi q hq hn hL hL6 X hX hXd r 0 (by omega) acc (by omega) (by simpa using this))
  rw [fam.l1,ip (by omega),ip (by omega),ip (by omega)];rfl
theorem all_0 (d:List Int)(hok:Gr.chk d=0):∀ i,i≤d.length →
  Ev (fun k=>fam.l0 k d (Gr.pre (d.take i)) (d.length:Int) (i:Int)) (Gr.pre d):=by
 obtain⟨h6,h1,h2⟩:=Gr.chk_ok hok
 apply down
 ·rw [List.take_length]
  refine Ev.step (fun k=>?_) (Ev.now _)
  rw [fam.l0,iN (by omega)]
 ·intro i hi ih
  have hx:=h1 _ (List.getElem_mem hi)
  have hx2:=Gr.ok_le hok _ (List.getElem_mem hi)
  have e:d.take (i + 1)=d.take i ++ [rd d (i:Int)]:=by rw [List.take_succ_eq_append_getElem hi,rdg d i hi]
  rw [e,Gr.pre_snoc _ _ (fun y hy=>h1 y (List.mem_of_mem_take hy)) (by rw [rdg d i hi];exact hx)] at ih
  have hp:=Gr.chk_ok (Gr.ok_take hok i)
  refine Ev.step (fun k=>?_) (all_1 d (Gr.pre (d.take i)) i hi h6 (by rw [Gr.pre_length];omega) ?_ (rd d (i:Int)).toNat (by rw [rdg d i hi];omega) (by rw [rdg d i hi];omega) _ 0 (by omega) [] (by simp) (by simpa using ih))
  ·rw [fam.l0,ip (by omega)];rfl
  ·intro p hp
   simp only [Gr.pre,List.mem_map] at hp
   obtain⟨n,_,rfl⟩:=hp
   rw [Gr.dig_length,List.length_take];omega
theorem ref_all (d:List Int):Ev (fun k=>fam.f k d) (Gr.alls d):=by
 refine Ev.congr (fun k=>by rw [fam.f]) (Ev.bind (ref_check d) ?_)
 by_cases h:Gr.chk d=0
 ·simp only [ip h]
  rw [Gr.alls_ok h]
  have:=all_0 d h 0 (by omega)
  rw [List.take_zero,Gr.pre_nil] at this
  exact this
 ·simp only [iN h]
  unfold Gr.alls
  rw [iN h]
  exact Ev.now _
theorem move_put_l (x:List Int) (n a a2 a3 a4 a5 a6 a7:Int)(a8:Bool)(l:List Int)(hn:l.length≤1000000000):∀ i,i≤l.length →
  Ev (fun k=>fbm.l0 k x l (l.length:Int) (i:Int) n a a2 a3 a4 a5 a6 a7 a8 l) (if Gr.inr (l.drop i) a=true then(x,0)else([],11)):=by
 apply down
 ·rw [List.drop_length]
  refine Ev.step (fun k=>?_) (Ev.now _)
  rw [fbm.l0,iN (by omega)];rfl
 ·intro i hi ih
  have e:=Gr.inr_cons (rd l (i:Int)) (l.drop (i + 1)) a
  rw [dropc l i hi]
  by_cases h0:rd l (i:Int) < 0
  ·rw [iN (fun c=>absurd (e.1 c).1.1 (by omega))]
   refine Ev.step (fun k=>?_) (Ev.now _)
   rw [fbm.l0,ip (by omega),ip (by omega),ip (by omega),ip h0]
  ·by_cases h1:a≤rd l (i:Int)
   ·rw [iN (fun c=>absurd (e.1 c).1.2 (by omega))]
    refine Ev.step (fun k=>?_) (Ev.now _)
    rw [fbm.l0,ip (by omega),ip (by omega),ip (by omega),iN h0,ip h1]
   ·rw [show Gr.inr (rd l (i:Int) :: l.drop (i + 1)) a=Gr.inr (l.drop (i + 1)) a by rw [Bool.eq_iff_iff,e];exact⟨fun h=>h.2,fun h=>⟨⟨by omega,by omega⟩,h⟩⟩]
    refine Ev.step (fun k=>?_) ih
    rw [fbm.l0,ip (by omega),ip (by omega),ip (by omega),iN h0,iN h1,nx i _ hi hn]
theorem mput (d:List Int) (n a a2 a3 a4 a5 a6 a7:Int)(a8:Bool)(l:List Int)(hn:l.length≤1000000000):Ev (fun k=>fbm.f k d n a a2 a3 a4 a5 a6 a7 a8 l) (Gr.putd d n a l):=by
 refine Ev.congr (fun k=>by rw [fbm.f]) (Ev.bind (withp d n a) ?_)
 unfold Gr.putd
 by_cases h:(Gr.withd d n a).2=0
 ·obtain⟨w1,w2,w3,w4,w5⟩:=Gr.withd_o29 h
  rw [ip h]
  simp only [ip h,ip w2,ip w3]
  by_cases h2:(l.length:Int)=Gr.at0 d n
  ·rw [ip h2]
   refine Ev.congr (fun k=>by rw [← at0_rd,ip h2]) ?_
   have:=move_put_l (Gr.withd d n a).1 n a a2 a3 a4 a5 a6 a7 a8 l hn 0 (by omega)
   rwa [List.drop_zero] at this
  ·rw [iN h2]
   exact Ev.congr (fun k=>by rw [← at0_rd,iN h2]) (Ev.now _)
 ·rw [iN h]
  exact Ev.congr (fun k=>by rw [iN h]) (Ev.now _)
theorem move_taken_l (d:List Int) (n a a2 a3 a4 a5 a6 a7:Int)(a8:Bool)(l:List Int)(hn:l.length≤1000000000)(h0:0≤n)(h1:n < (d.length:Int)):∀ i,i≤l.length →
  Ev (fun k=>fbo.l0 k d l (l.length:Int) (i:Int) n a a2 a3 a4 a5 a6 a7 a8 l) (if Gr.inr (l.drop i) (Gr.at0 d n)=true then Gr.withd d n (l.length:Int)else([],11)):=by
 apply down
 ·rw [List.drop_length]
  refine Ev.step (fun k=>by rw [fbo.l0,iN (by omega)]) (Ev.bind (withp d n (l.length:Int)) ?_)
  exact Ev.now _
 ·intro i hi ih
  have e:=Gr.inr_cons (rd l (i:Int)) (l.drop (i + 1)) (Gr.at0 d n)
  rw [dropc l i hi]
  by_cases g0:rd l (i:Int) < 0
  ·rw [iN (fun c=>absurd (e.1 c).1.1 (by omega))]
   refine Ev.step (fun k=>?_) (Ev.now _)
   rw [fbo.l0,ip (by omega),ip (by omega),ip (by omega),ip g0]
  ·by_cases g1:Gr.at0 d n≤rd l (i:Int)
   ·rw [iN (fun c=>absurd (e.1 c).1.2 (by omega))]
    refine Ev.step (fun k=>?_) (Ev.now _)
    rw [fbo.l0,ip (by omega),ip (by omega),ip (by omega),iN g0,ip h0,ip h1,← at0_rd d,ip g1]
   ·rw [show Gr.inr (rd l (i:Int) :: l.drop (i + 1)) (Gr.at0 d n)=Gr.inr (l.drop (i + 1)) (Gr.at0 d n) by rw [Bool.eq_iff_iff,e];exact⟨fun h=>h.2,fun h=>⟨⟨by omega,by omega⟩,h⟩⟩]
    refine Ev.step (fun k=>?_) ih
    rw [fbo.l0,ip (by omega),ip (by omega),ip (by omega),iN g0,ip h0,ip h1,← at0_rd d,iN g1,nx i _ hi hn]
theorem mtaken (d:List Int) (n a a2 a3 a4 a5 a6 a7:Int)(a8:Bool)(l:List Int)(hn:l.length≤1000000000):Ev (fun k=>fbo.f k d n a a2 a3 a4 a5 a6 a7 a8 l) (Gr.takd d n l):=by
 unfold Gr.takd
 by_cases h0:n < 0
 ·rw [ip (.inl h0)]
  refine Ev.congr (fun k=>by rw [fbo.f,ip h0]) (Ev.step (fun k=>?_) (Ev.now _))
  rw [fbo.j0,ip rfl]
 ·refine Ev.congr (fun k=>by rw [fbo.f,iN h0]) ?_
  by_cases h1:(d.length:Int)≤n
  ·rw [ip (.inr h1)]
   refine Ev.step (fun k=>?_) (Ev.now _)
   rw [fbo.j0,ip (decide_eq_true h1)]
  ·rw [iN (by omega)]
   refine Ev.step (fun k=>by rw [fbo.j0,iN (by simp;omega)]) ?_
   have:=move_taken_l d n a a2 a3 a4 a5 a6 a7 a8 l hn (by omega) (by omega) 0 (by omega)
   rwa [List.drop_zero] at this
theorem att_ok {d:List Int} {i:Int} (h:(Gr.att d i).2=true):0≤i∧i < Gr.cnt d∧Gr.chk d=0∧Gr.att d i=(Gr.dig d i,true)∧Gr.inb d (Gr.dig d i)=true:=by
 unfold Gr.att at h ⊢
 split at h
 ·rename_i h1
  have hc:Gr.chk d=0:=by
   by_cases c:Gr.chk d=0
   ·exact c
   ·unfold Gr.cnt at h1;rw [iN c] at h1;omega
  exact⟨h1.1,h1.2,hc,by rw [ip h1],Gr.inb_dig d (Gr.chk_ok hc).2.1 i⟩
 ·simp at h
theorem mx_gr (a b:Int):mx a b=Gr.mx a b:=rfl
theorem size_at (l:List Int)(n:Nat)(hl:l.length≤n)(hn:n≤6)(i:Nat)(hi:i < n):fcb.f l (((n - i:Nat)):Int)=some ((Gr.pad n l)[i]'(by rw [Gr.pad_length n l hl];exact hi)):=by
 rw [fcb.f,Gr.pad_at n l hl i hi]
 by_cases h:n - l.length≤i
 ·rw [dif_pos h,iN (by omega),w64 (by omega) (by omega),ip (by omega),ip (by omega),show ((l.length:Int) - ((n - i:Nat):Int))=((i - (n - l.length):Nat):Int) by omega,rdg l _ (by omega)]
 ·rw [dif_neg h,ip (by omega)]
theorem mxs_drop (p q:List Int)(i:Nat)(hp:i < p.length)(hq:i < q.length):(Gr.mxs p q).drop i=Gr.mx p[i] q[i] :: (Gr.mxs p q).drop (i + 1):=by
 induction i generalizing p q with
 | zero =>
  cases p with
  | nil=>simp at hp
  | cons x p =>
   cases q with
   | nil=>simp at hq
   | cons y q=>rfl
 | succ i ih =>
  cases p with
  | nil=>simp at hp
  | cons x p =>
   cases q with
   | nil=>simp at hq
   | cons y q =>
    have:=ih p q (by simpa using hp) (by simpa using hq)
    simpa [Gr.mxs] using this
theorem fitz_at (p q:List Int)(i:Nat)(hp:i < p.length)(hq:i < q.length)(h:Gr.fitz p q=true):p[i]=q[i]∨p[i]=1∨q[i]=1:=by
 have:=Gr.fitz_drop p q i h
 rw [List.drop_eq_getElem_cons hp,List.drop_eq_getElem_cons hq] at this
 simp only [Gr.fitz,Bool.and_eq_true,Bool.or_eq_true,beq_iff_eq] at this
 rcases this.1 with(h|h)|h
 ·exact .inl h
 ·exact .inr (.inl h)
 ·exact .inr (.inr h)
theorem fitz_drop_of (p q:List Int)(i:Nat)(hp:i < p.length)(hq:i < q.length)(h1:p[i]=q[i]∨p[i]=1∨q[i]=1)(h:Gr.fitz (p.drop (i + 1)) (q.drop (i + 1))=true):Gr.fitz (p.drop i) (q.drop i)=true:=by
 rw [List.drop_eq_getElem_cons hp,List.drop_eq_getElem_cons hq]
 simp only [Gr.fitz,Bool.and_eq_true,Bool.or_eq_true,beq_iff_eq]
 refine⟨?_,h⟩
 rcases h1 with h|h|h
 ·exact .inl (.inl h)
 ·exact .inl (.inr h)
 ·exact .inr h
theorem two_l1 (a b:List Int)(n:Nat)(ha:a.length≤n)(hb:b.length≤n)(hn:n≤6):∀ i,i≤n→∀ x:List Int,x.length=n→x.drop i=(Gr.mxs (Gr.pad n a) (Gr.pad n b)).drop i →
  Gr.fitz ((Gr.pad n a).drop i) ((Gr.pad n b).drop i)=true →
  Ev (fun k=>fca.l1 k a b (n:Int) x (((n - i:Nat):Int) + 1)) (Gr.tw (Gr.pad n a) (Gr.pad n b)):=by
 have la:=Gr.pad_length n a ha
 have lb:=Gr.pad_length n b hb
 intro i
 induction i with
 | zero =>
  intro hi x hl hx hf
  simp only [List.drop_zero] at hx hf
  subst hx
  unfold Gr.tw
  rw [ip hf]
  by_cases hc:Gr.chk (Gr.mxs (Gr.pad n a) (Gr.pad n b))=0
  ·rw [ip hc]
   refine Ev.step (fun k=>?_) (Ev.now _)
   rw [fca.l1,iN (by omega),shape_check,Option.bind_some,ip hc]
  ·rw [iN hc]
   refine Ev.step (fun k=>?_) (Ev.now _)
   rw [fca.l1,iN (by omega),shape_check,Option.bind_some,iN hc]
 | succ i ih =>
  intro hi x hl hx hf
  have hlt:i < n:=by omega
  have sa:=size_at a n ha hn i hlt
  have sb:=size_at b n hb hn i hlt
  have ei:(((n - (i + 1):Nat):Int) + 1)=((n - i:Nat):Int):=by omega
  have ei2:(n:Int) - ((n - i:Nat):Int)=(i:Int):=by omega
  rw [ei]
  by_cases hfit:(Gr.pad n a)[i]=(Gr.pad n b)[i]∨(Gr.pad n a)[i]=1∨(Gr.pad n b)[i]=1
  ·have hnew:=ih (by omega) (x.set i (Gr.mx (Gr.pad n a)[i] (Gr.pad n b)[i])) (by simp [hl]) (by
    rw [List.drop_eq_getElem_cons (by simp;omega),mxs_drop _ _ i (by omega) (by omega)]
    simp only [List.getElem_set_self,List.cons.injEq,true_and]
    rw [List.drop_set_of_lt (by omega)]
    exact hx) (fitz_drop_of _ _ i (by omega) (by omega) hfit hf)
   refine Ev.step (fun k=>?_) hnew
   rw [fca.l1,ip (by omega),sa,Option.bind_some,sb,Option.bind_some,ei2,w64 (x:=(i:Int)) (by omega) (by omega),w64 (by omega) (by omega)]
   simp only [ip (show (0:Int)≤(i:Int) by omega),ip (show (i:Int) < (x.length:Int) by omega),Int.toNat_natCast,mx_gr]
   by_cases e1:(Gr.pad n a)[i]=(Gr.pad n b)[i]
   ·rw [ip e1]
   ·rw [iN e1]
    by_cases e2:(Gr.pad n a)[i]=1
    ·rw [ip e2]
    ·rw [iN e2,ip (by rcases hfit with h|h|h <;> first|exact absurd h e1|exact absurd h e2|exact h)]
  ·unfold Gr.tw
   rw [iN (fun h=>hfit (fitz_at _ _ i (by omega) (by omega) h))]
   refine Ev.step (fun k=>?_) (Ev.now _)
   rw [fca.l1,ip (by omega),sa,Option.bind_some,sb,Option.bind_some,iN (fun h=>hfit (.inl h)),iN (fun h=>hfit (.inr (.inl h))),iN (fun h=>hfit (.inr (.inr h)))]
theorem two (a b:List Int):Ev (fun k=>fca.f k a b) (Gr.two a b):=by
 unfold Gr.two
 refine Ev.congr (f:=fun k=>fca.l0 k a b [a,b] 2 0) (fun k=>by rw [fca.f,Option.bind_some];rfl) ?_
 have r0:rd_L1 [a,b] 0=a:=rfl
 have r1:rd_L1 [a,b] 1=b:=rfl
 by_cases ha:Gr.chk a=0
 ·rw [ip ha]
  have h6:=(Gr.chk_ok ha).1
  refine Ev.step (f:=fun k=>fca.l0 k a b [a,b] 2 1) (fun k=>by rw [fca.l0,ip (by omega),ip (by omega),ip (by simp),r0,shape_check,Option.bind_some,ip ha,w64 (by omega) (by omega)];rfl) ?_
  by_cases hb:Gr.chk b=0
  ·rw [ip hb]
   have k6:=(Gr.chk_ok hb).1
   refine Ev.step (f:=fun k=>fca.l0 k a b [a,b] 2 2) (fun k=>by rw [fca.l0,ip (by omega),ip (by omega),ip (by simp),r1,shape_check,Option.bind_some,ip hb,w64 (by omega) (by omega)];rfl) ?_
   have hm:mx (a.length:Int) (b.length:Int)=(Gr.rank2 a b:Int):=by unfold mx Gr.rank2;split <;> omega
   have:=two_l1 a b (Gr.rank2 a b) (by unfold Gr.rank2;omega) (by unfold Gr.rank2;omega) (by unfold Gr.rank2;omega) (Gr.rank2 a b) (by omega) (List.replicate (Gr.rank2 a b) 0) (by simp) (by
    rw [List.drop_of_length_le (by simp),List.drop_of_length_le]
    rw [Gr.mxs_length,Gr.pad_length _ _ (by unfold Gr.rank2;omega)];omega
    rw [Gr.pad_length _ _ (by unfold Gr.rank2;omega),Gr.pad_length _ _ (by unfold Gr.rank2;omega)]) (by
    rw [List.drop_of_length_le (by rw [Gr.pad_length _ _ (by unfold Gr.rank2;omega)];omega)];rfl)
   rw [show (((Gr.rank2 a b - Gr.rank2 a b:Nat):Int) + 1)=1 by omega] at this
   refine Ev.step (fun k=>?_) this
   rw [fca.l0,iN (by omega),hm,ip (by omega),ip (by unfold Gr.rank2;omega),Int.toNat_natCast]
  ·rw [iN hb]
   refine Ev.step (fun k=>?_) (Ev.now _)
   rw [fca.l0,ip (by omega),ip (by omega),ip (by simp),r1,shape_check,Option.bind_some,iN hb]
 ·rw [iN ha]
  refine Ev.step (fun k=>?_) (Ev.now _)
  rw [fca.l0,ip (by omega),ip (by omega),ip (by simp),r0,shape_check,Option.bind_some,iN ha]
theorem ref_two_2 (p q:List Int)(hl:p.length=q.length)(hn:p.length≤6):∀ i,i≤p.length→Gr.fitz (p.take i) (q.take i)=true →
  Ev (fun k=>faq.l2 k p q ((Gr.mxs p q).take i) (p.length:Int) (i:Int)) (Gr.tw p q):=by
 have lm:=Gr.mxs_length p q hl
 apply down
 ·intro hf
  rw [List.take_length,hl,List.take_length] at hf
  rw [List.take_of_length_le (by omega)]
  refine Ev.step (fun k=>by rw [faq.l2,iN (by omega)]) (Ev.bind (ref_check _) ?_)
  unfold Gr.tw
  rw [ip hf]
  by_cases hc:Gr.chk (Gr.mxs p q)=0
  ·rw [ip hc,ip hc];exact Ev.now _
  ·rw [iN hc,iN hc];exact Ev.now _
 ·intro i hi ih hf
  have hq:i < q.length:=by omega
  have hd:=mxs_drop p q i hi hq
  have hmi:(Gr.mxs p q)[i]'(by omega)=Gr.mx p[i] q[i]:=by
   rw [List.drop_eq_getElem_cons (by omega)] at hd
   simp only [List.cons.injEq] at hd
   exact hd.1
  have e:(Gr.mxs p q).take (i + 1)=(Gr.mxs p q).take i ++ [Gr.mx p[i] q[i]]:=by
   rw [List.take_succ_eq_append_getElem (by omega),hmi]
  have hlen:((Gr.mxs p q).take i).length < 17592186044416:=by rw [List.length_take];omega
  by_cases hfit:p[i]=q[i]∨p[i]=1∨q[i]=1
  ·have hf2:Gr.fitz (p.take (i + 1)) (q.take (i + 1))=true:=by
    rw [List.take_succ_eq_append_getElem hi,List.take_succ_eq_append_getElem hq]
    have:∀ (u v:List Int),u.length=v.length→Gr.fitz u v=true→Gr.fitz (u ++ [p[i]]) (v ++ [q[i]])=true:=by
     intro u
     induction u with
     | nil =>
      intro v hv _
      have:v=[]:=List.eq_nil_of_length_eq_zero (by simpa using hv.symm)
      subst this
      simp only [List.nil_append,Gr.fitz,Bool.and_true,Bool.or_eq_true,beq_iff_eq]
      rcases hfit with h|h|h
      ·exact .inl (.inl h)
      ·exact .inl (.inr h)
      ·exact .inr h
     | cons y u ihu =>
      intro v hv h
      cases v with
      | nil=>simp at hv
      | cons z v =>
       simp only [Gr.fitz,Bool.and_eq_true] at h
       simp only [List.cons_append,Gr.fitz,Bool.and_eq_true]
       exact⟨h.1,ihu v (by simpa using hv) h.2⟩
    exact this _ _ (by rw [List.length_take,List.length_take];omega) hf
   have hnew:=ih hf2
   rw [e] at hnew
   refine Ev.step (fun k=>?_) hnew
   rw [faq.l2,ip (by omega),ip (by omega),ip (by omega),ip (by omega),rdg p i hi,rdg q i hq,nx i _ hi (by omega)]
   simp only [ip hlen,mx_gr]
   by_cases e1:p[i]=q[i]
   ·rw [ip e1]
   ·rw [iN e1]
    by_cases e2:p[i]=1
    ·rw [ip e2]
    ·rw [iN e2,ip (by rcases hfit with h|h|h <;> first|exact absurd h e1|exact absurd h e2|exact h)]
  ·unfold Gr.tw
   rw [iN (fun h=>hfit (fitz_at _ _ i hi hq h))]
   refine Ev.step (fun k=>?_) (Ev.now _)
   rw [faq.l2,ip (by omega),ip (by omega),ip (by omega),ip (by omega),rdg p i hi,rdg q i hq,iN (fun h=>hfit (.inl h)),iN (fun h=>hfit (.inr (.inl h))),iN (fun h=>hfit (.inr (.inr h)))]
theorem pad_one (n:Nat)(l:List Int)(h:l.length < n):Gr.pad n (1 :: l)=Gr.pad n l:=by
 unfold Gr.pad
 rw [show n - l.length=(n - (1 :: l).length) + 1 by simp;omega,List.replicate_succ',List.append_assoc]
 rfl
theorem ref_two_1 (p:List Int)(hp:p.length≤6):∀ (d:Nat)(q:List Int),q.length + d=p.length →
  Ev (fun k=>faq.l1 k p q) (Gr.tw p (Gr.pad p.length q)):=by
 intro d
 induction d with
 | zero =>
  intro q hq
  rw [show p.length=q.length by omega,Gr.pad_self]
  refine Ev.step (fun k=>?_) (ref_two_2 p q (by omega) hp 0 (by omega) (by simp [Gr.fitz]))
  rw [faq.l1,iN (by omega)];rfl
 | succ d ih =>
  intro q hq
  have:=ih (1 :: q) (by simp;omega)
  rw [pad_one _ _ (by omega)] at this
  refine Ev.step (fun k=>?_) this
  rw [faq.l1,ip (by omega),Option.bind_some,ip (by simp;omega)];rfl
theorem ref_two_0 (q:List Int)(hq6:q.length≤6):∀ (d:Nat)(p:List Int),p.length + d=q.length →
  Ev (fun k=>faq.l0 k p q) (Gr.tw (Gr.pad q.length p) q):=by
 intro d
 induction d with
 | zero =>
  intro p hp
  rw [show q.length=p.length by omega,Gr.pad_self]
  have:=ref_two_1 p (by omega) 0 q (by omega)
  rw [show p.length=q.length by omega,Gr.pad_self] at this
  refine Ev.step (fun k=>?_) this
  rw [faq.l0,iN (by omega)]
 | succ d ih =>
  intro p hp
  have:=ih (1 :: p) (by simp;omega)
  rw [pad_one _ _ (by omega)] at this
  refine Ev.step (fun k=>?_) this
  rw [faq.l0,ip (by omega),Option.bind_some,ip (by simp;omega)];rfl
theorem ref_two (a b:List Int):Ev (fun k=>faq.f k a b) (Gr.two a b):=by
 unfold Gr.two
 refine Ev.congr (fun k=>by rw [faq.f]) (Ev.bind (ref_check a) (Ev.bind (ref_check b) ?_))
 by_cases ha:Gr.chk a=0
 ·rw [ip ha]
  simp only [ip ha]
  by_cases hb:Gr.chk b=0
  ·rw [ip hb]
   simp only [ip hb]
   have h6:=(Gr.chk_ok ha).1
   have k6:=(Gr.chk_ok hb).1
   by_cases hl:a.length≤b.length
   ·rw [show Gr.rank2 a b=b.length by unfold Gr.rank2;omega,Gr.pad_self]
    exact ref_two_0 b k6 (b.length - a.length) a (by omega)
   ·rw [show Gr.rank2 a b=a.length by unfold Gr.rank2;omega,Gr.pad_self]
    refine Ev.step (fun k=>?_) (ref_two_1 a h6 (a.length - b.length) b (by omega))
    rw [faq.l0,iN (by omega)]
  ·rw [iN hb]
   simp only [iN hb]
   exact Ev.now _
 ·rw [iN ha]
  simp only [iN ha]
  exact Ev.now _
theorem equal_l (a b:List Int)(hl:a.length=b.length)(hn:a.length≤1000000000):∀ i,i≤a.length →
  Ev (fun k=>fbx.l0 k a b (a.length:Int) (i:Int)) (decide (a.drop i=b.drop i)):=by
 apply down
 ·refine Ev.step (f:=fun _=>some true) (fun k=>?_) ?_
  ·rw [fbx.l0,iN (by omega)]
  ·rw [List.drop_length,hl,List.drop_length];exact Ev.now true
 ·intro i hi ih
  rw [dropc a i hi,dropc b i (by omega)]
  by_cases e:rd a (i:Int)=rd b (i:Int)
  ·rw [show decide (rd a (i:Int) :: a.drop (i + 1)=rd b (i:Int) :: b.drop (i + 1))=decide (a.drop (i + 1)=b.drop (i + 1)) by simp [e]]
   refine Ev.step (fun k=>?_) ih
   rw [fbx.l0,ip (by omega),ip (by omega),ip (by omega),ip (by omega),ip e,nx i _ hi hn]
  ·rw [show decide (rd a (i:Int) :: a.drop (i + 1)=rd b (i:Int) :: b.drop (i + 1))=false by simp [e]]
   refine Ev.step (fun k=>?_) (Ev.now false)
   rw [fbx.l0,ip (by omega),ip (by omega),ip (by omega),ip (by omega),iN e]
theorem equal (a b:List Int)(hn:a.length≤1000000000):Ev (fun k=>fbx.f k a b) (decide (a=b)):=by
 by_cases hl:a.length=b.length
 ·refine Ev.congr (fun k=>?_) (by have:=equal_l a b hl hn 0 (by omega);simpa using this)
  rw [fbx.f,ip (by omega)]
 ·rw [show decide (a=b)=false from decide_eq_false (fun e=>hl (by rw [e]))]
  refine Ev.congr (fun k=>?_) (Ev.now false)
  rw [fbx.f,iN (by omega)]
theorem rsame_l (a b:List Int)(hl:a.length=b.length)(hn:a.length≤1000000000):∀ i,i≤a.length →
  Ev (fun k=>fak.l0 k a b (a.length:Int) (i:Int)) (decide (a.drop i=b.drop i)):=by
 apply down
 ·refine Ev.step (f:=fun _=>some true) (fun k=>?_) ?_
  ·rw [fak.l0,iN (by omega)]
  ·rw [List.drop_length,hl,List.drop_length];exact Ev.now true
 ·intro i hi ih
  rw [dropc a i hi,dropc b i (by omega)]
  by_cases e:rd a (i:Int)=rd b (i:Int)
  ·rw [show decide (rd a (i:Int) :: a.drop (i + 1)=rd b (i:Int) :: b.drop (i + 1))=decide (a.drop (i + 1)=b.drop (i + 1)) by simp [e]]
   refine Ev.step (fun k=>?_) ih
   rw [fak.l0,ip (by omega),ip (by omega),ip (by omega),ip (by omega),ip e,nx i _ hi hn]
  ·rw [show decide (rd a (i:Int) :: a.drop (i + 1)=rd b (i:Int) :: b.drop (i + 1))=false by simp [e]]
   refine Ev.step (fun k=>?_) (Ev.now false)
   rw [fak.l0,ip (by omega),ip (by omega),ip (by omega),ip (by omega),iN e]
theorem rsame (a b:List Int)(hn:a.length≤1000000000):Ev (fun k=>fak.f k a b) (decide (a=b)):=by
 by_cases hl:a.length=b.length
 ·refine Ev.congr (fun k=>?_) (by have:=rsame_l a b hl hn 0 (by omega);simpa using this)
  rw [fak.f,ip (by omega)]
 ·rw [show decide (a=b)=false from decide_eq_false (fun e=>hl (by rw [e]))]
  refine Ev.congr (fun k=>?_) (Ev.now false)
  rw [fak.f,iN (by omega)]
theorem two_fst_le (a b:List Int):(Gr.two a b).1.length≤6:=by
 unfold Gr.two
 split
 ·split
  ·unfold Gr.tw
   split
   ·split
    ·rename_i h;exact(Gr.chk_ok h).1
    ·simp
   ·simp
  ·simp
 ·simp
theorem fits (a b:List Int):Ev (fun k=>fby.f k a b) (Gr.fts a b):=by
 refine Ev.congr (fun k=>by rw [fby.f]) (Ev.bind (two a b) ?_)
 unfold Gr.fts
 by_cases h:(Gr.two a b).2=0
 ·simp only [ip h]
  rw [decide_eq_true h,Bool.true_and]
  refine Ev.bind (f:=fun k t=>some t) ?_ (Ev.now _)
  refine Ev.congr (fun k=>by rw [fbt.f]) (Ev.bind (f:=fun k t=>some t) (equal _ _ (by have:=two_fst_le a b;omega)) (Ev.now _))
 ·simp only [iN h]
  rw [decide_eq_false h,Bool.false_and]
  exact Ev.now _
theorem ref_fits (a b:List Int):Ev (fun k=>fao.f k a b) (Gr.fts a b):=by
 refine Ev.congr (fun k=>by rw [fao.f]) (Ev.bind (ref_two a b) ?_)
 unfold Gr.fts
 by_cases h:(Gr.two a b).2=0
 ·simp only [ip h]
  rw [decide_eq_true h,Bool.true_and]
  exact Ev.bind (f:=fun k t=>some t) (rsame _ _ (by have:=two_fst_le a b;omega)) (Ev.now _)
 ·simp only [iN h]
  rw [decide_eq_false h,Bool.false_and]
  exact Ev.now _
theorem source_l (a:List Int)(hn:a.length≤6)(v:Int×Bool):∀ i,i≤a.length→∀ q:List Int,q.length=a.length →
  (∀ k,q.take i=(Gr.sat a k).take i→q.drop i=k.drop i→k.length=a.length→Ev (fun n=>fco.f n a (Gr.sat a k)) v →
  Ev (fun n=>fbz.l0 n a q a (a.length:Int) (i:Int)) v):=by
 have sl:∀ (a k:List Int),k.length=a.length→(Gr.sat a k).length=a.length:=by
  intro a
  induction a with
  | nil=>intro k hk;cases k <;> simp [Gr.sat]
  | cons x a ih =>
   intro k hk
   cases k with
   | nil=>simp at hk
   | cons y k=>simp [Gr.sat,ih k (by simpa using hk)]
 have sg:∀ (a k:List Int) (hk:k.length=a.length) (i:Nat) (hi:i < a.length),(Gr.sat a k)[i]'(by rw [sl a k hk];exact hi)=if a[i]=1 then 0 else k[i]'(by omega):=by
  intro a
  induction a with
  | nil=>intro k hk i hi;simp at hi
  | cons x a ih =>
   intro k hk i hi
   cases k with
   | nil=>simp at hk
   | cons y k =>
    cases i with
    | zero=>simp [Gr.sat]
    | succ i=>simpa [Gr.sat] using ih k (by simpa using hk) i (by simpa using hi)
 apply down
 ·intro q hq k h1 h2 hk hp
  have:q=Gr.sat a k:=by
   rw [List.take_of_length_le (by omega),List.take_of_length_le (by rw [sl a k hk];omega)] at h1
   exact h1
  subst this
  refine Ev.step (fun n=>by rw [fbz.l0,iN (by omega)]) (Ev.bind hp ?_)
  exact Ev.now _
 ·intro i hi ih q hq k h1 h2 hk hp
  have hsg:=sg a k hk i hi
  have e:(Gr.sat a k).take (i + 1)=(Gr.sat a k).take i ++ [if a[i]=1 then 0 else k[i]'(by omega)]:=by
   rw [List.take_succ_eq_append_getElem (by rw [sl a k hk];exact hi),hsg]
  have h3:q.drop (i + 1)=k.drop (i + 1):=by
   have:=congrArg (List.drop 1) h2
   rw [List.drop_drop,List.drop_drop] at this
   exact this
  by_cases h:a[i]=1
  ·rw [ip h] at e
   refine Ev.step (fun n=>?_) (ih (q.set i 0) (by simp [hq]) k ?_ ?_ hk hp)
   ·rw [fbz.l0,ip (by omega),ip (by omega),ip (by omega),rdg a i hi,ip h,ip (by omega),Int.toNat_natCast,nx i _ hi (by omega)]
   ·rw [e,← h1,List.take_succ_eq_append_getElem (by simp;omega),List.getElem_set_self,List.take_set_of_le (by omega)]
   ·rw [List.drop_set_of_lt (by omega)];exact h3
  ·rw [iN h] at e
   refine Ev.step (fun n=>?_) (ih q hq k ?_ h3 hk hp)
   ·rw [fbz.l0,ip (by omega),ip (by omega),ip (by omega),rdg a i hi,iN h,nx i _ hi (by omega)]
   ·rw [e,← h1,List.take_succ_eq_append_getElem (by omega)]
    have h4:q[i]'(by omega)=k[i]'(by omega):=by
     have hq2:i < q.length:=by omega
     have hk2:i < k.length:=by omega
     rw [List.drop_eq_getElem_cons hq2,List.drop_eq_getElem_cons hk2] at h2
     simp only [List.cons.injEq] at h2
     exact h2.1
    rw [h4]
theorem source (a b:List Int) (n:Int):Ev (fun k=>fbz.f k a b n) (if Gr.fts a b=true∧0≤n∧n < Gr.cnt b then(Gr.src a b n,true)else(0,false)):=by
 refine Ev.congr (fun k=>by rw [fbz.f]) (Ev.bind (walk_at b n) ?_)
 unfold Gr.att
 by_cases h1:0≤n∧n < Gr.cnt b
 ·rw [ip h1]
  simp only [if_true]
  refine Ev.bind (fits a b) ?_
  by_cases h2:Gr.fts a b=true
  ·rw [ip ⟨h2,h1⟩,h2]
   obtain⟨ca,cb,hle,hsub⟩:=(Gr.fts_iff a b).1 h2
   have a6:=(Gr.chk_ok ca).1
   have b6:=(Gr.chk_ok cb).1
   have hin:=Gr.src_in h2 n
   have hpl:=walk_place a (Gr.sat a ((Gr.dig b n).drop (b.length - a.length)))
   unfold Gr.plc at hpl
   rw [ip (by unfold Gr.ind;rw [decide_eq_true ca,hin];rfl)] at hpl
   have hlen:((Gr.dig b n).drop (b.length - a.length)).length=a.length:=by rw [List.length_drop,Gr.dig_length];omega
   refine Ev.step (fun k=>?_) (source_l a a6 _ 0 (by omega) ((Gr.dig b n).drop (b.length - a.length)) hlen _ (by simp) rfl hlen hpl)
   rw [fbz.j0,iN (by simp),w64 (by omega) (by omega),ip (by omega),ip (by rw [Gr.dig_length];omega),show ((b.length:Int) - (a.length:Int)).toNat=b.length - a.length by omega];rfl
  ·rw [iN (fun h=>h2 h.1),show Gr.fts a b=false by simpa using h2]
   refine Ev.step (fun k=>?_) (Ev.now _)
   rw [fbz.j0,ip (by rfl)]
 ·rw [iN h1,iN (fun h=>h1 h.2)]
  simp only [Bool.false_eq_true,if_false]
  refine Ev.step (fun k=>?_) (Ev.now _)
  rw [fbz.j0,ip rfl]
theorem rplace_l (d r:List Int)(hok:Gr.chk d=0)(hi2:Gr.inb d r=true):∀ i,i≤d.length→∀ n:Int,0≤n→n * Gr.prod (d.drop i) + Gr.num (d.drop i) (r.drop i)≤64→Gr.inb (d.drop i) (r.drop i)=true →
  Ev (fun k=>fas.l0 k d r n (d.length:Int) (i:Int)) (n * Gr.prod (d.drop i) + Gr.num (d.drop i) (r.drop i)):=by
 obtain⟨h6,h1,h2⟩:=Gr.chk_ok hok
 have hl:=Gr.inb_length hi2
 apply down
 ·intro n hn hb _
  rw [List.drop_length,← hl,List.drop_length]
  simp only [Gr.prod,Gr.num,Int.mul_one,Int.add_zero]
  refine Ev.step (fun k=>?_) (Ev.now _)
  rw [fas.l0,iN (by omega)]
 ·intro i hi ih n hn hb hin
  have hq:=Gr.num_lt (d.drop (i + 1)) (r.drop (i + 1)) (fun x hx=>h1 x (List.mem_of_mem_drop hx))
  have hp:=Gr.prod_pos (d.drop (i + 1)) (fun x hx=>h1 x (List.mem_of_mem_drop hx))
  have hx1:1≤rd d (i:Int):=by rw [rdg d i (by omega)];exact h1 _ (List.getElem_mem _)
  rw [dropc d i (by omega),dropc r i (by omega)] at hin hb ⊢
  simp only [Gr.inb,Bool.and_eq_true,decide_eq_true_eq] at hin
  obtain⟨q1,q2⟩:=hq hin.2
  simp only [Gr.prod,Gr.num] at hb ⊢
  have e:n * (rd d (i:Int) * Gr.prod (d.drop (i + 1))) + (rd r (i:Int) * Gr.prod (d.drop (i + 1)) + Gr.num (d.drop (i + 1)) (r.drop (i + 1)))=(n * rd d (i:Int) + rd r (i:Int)) * Gr.prod (d.drop (i + 1)) + Gr.num (d.drop (i + 1)) (r.drop (i + 1)):=by
   rw [Int.add_mul,← Int.mul_assoc];omega
  rw [e] at hb ⊢
  have b1:0≤n * rd d (i:Int):=Int.mul_nonneg hn (by omega)
  have b2:(n * rd d (i:Int) + rd r (i:Int)) * 1≤(n * rd d (i:Int) + rd r (i:Int)) * Gr.prod (d.drop (i + 1)):=Int.mul_le_mul_of_nonneg_left hp (by omega)
  refine Ev.step (fun k=>?_) (ih _ (by omega) hb hin.2)
  rw [fas.l0,ip (by omega),ip (by omega),ip (by omega),ip (by omega),show wrap64 (n * rd d (i:Int))=n * rd d (i:Int) from w64 (by omega) (by omega),w64 (by omega) (by omega),nx i _ hi (by omega)]
theorem rplace (d r:List Int)(hok:Gr.chk d=0)(hi:Gr.inb d r=true):Ev (fun k=>fas.f k d r) (Gr.num d r):=by
 obtain⟨h6,h1,h2⟩:=Gr.chk_ok hok
 have hb:=(Gr.num_lt d r h1 hi)
 have:=rplace_l d r hok hi 0 (by omega) 0 (by omega) (by simp;omega) (by simpa using hi)
 rw [List.drop_zero,List.drop_zero,Int.zero_mul,Int.zero_add] at this
 exact this
theorem srcs_1 (a b:List Int)(L:List (List Int))(hab:a.length≤b.length)(b6:b.length≤6)(q:Nat)(hq:q < L.length)(hLl:L.length≤64)(hlen:L[q].length=b.length)(acc:List Int)(hacc:acc.length≤64)(ca:Gr.chk a=0)
  (hin:Gr.inb a (Gr.sat a (L[q].drop (b.length - a.length)))=true) (r:List Int)
  (h:Ev (fun k=>fap.l0 k a b L (acc ++ [Gr.num a (Gr.sat a (L[q].drop (b.length - a.length)))]) (L.length:Int) ((q + 1:Nat):Int)) r) :
  ∀ i,i≤a.length→∀ o:List Int,o=(Gr.sat a (L[q].drop (b.length - a.length))).take i →
  Ev (fun k=>fap.l1 k a b L acc (q:Int) o (L.length:Int) (q:Int) (a.length:Int) (i:Int)) r:=by
 have sl:=Gr.inb_length hin
 apply down
 ·intro o ho
  rw [List.take_of_length_le (by omega)] at ho
  subst ho
  refine Ev.step (fun k=>by rw [fap.l1,iN (by omega)]) (Ev.bind (rplace a _ ca hin) ?_)
  refine Ev.congr (fun k=>?_) h
  rw [ip (by omega),nx q _ hq (by omega)]
 ·intro i hi ih o ho
  have sg:∀ (a k:List Int) (hk:k.length=a.length) (i:Nat) (hi:i < a.length),(Gr.sat a k).take (i + 1)=(Gr.sat a k).take i ++ [if a[i]=1 then 0 else k[i]'(by omega)]:=by
   intro a
   induction a with
   | nil=>intro k hk i hi;simp at hi
   | cons x a ih =>
    intro k hk i hi
    cases k with
    | nil=>simp at hk
    | cons y k =>
     cases i with
     | zero=>simp [Gr.sat]
     | succ i=>simpa [Gr.sat] using ih k (by simpa using hk) i (by simpa using hi)
  have e:=sg a (L[q].drop (b.length - a.length)) (by rw [List.length_drop];omega) i hi
  have hol:o.length≤6:=by rw [ho,List.length_take];omega
  rw [List.getElem_drop] at e
  by_cases h1:a[i]=1
  ·rw [ip h1,← ho] at e
   refine Ev.step (fun k=>?_) (ih (o ++ [0]) e.symm)
   rw [fap.l1,ip (by omega),ip (by omega),ip (by omega),rdg a i hi,ip h1,ip (by omega),nx i _ hi (by omega)]
  ·rw [iN h1,← ho] at e
   refine Ev.step (fun k=>?_) (ih _ e.symm)
   rw [fap.l1,ip (by omega),ip (by omega),ip (by omega),rdg a i hi,iN h1,ip (by omega),ip (by omega),show wrap64 ((b.length:Int) - (a.length:Int))=(b.length:Int) - (a.length:Int) from w64 (by omega) (by omega),w64 (by omega) (by omega),ip (by omega),rdl L q hq,ip (by omega),ip (by omega),
    show ((b.length:Int) - (a.length:Int) + (i:Int))=((b.length - a.length + i:Nat):Int) by omega,rdg _ _ (by omega),nx i _ hi (by omega)]
theorem srcs_0 (a b:List Int)(h:Gr.fts a b=true):∀ q,q≤(Gr.alls b).length →
  Ev (fun k=>fap.l0 k a b (Gr.alls b) ((Gr.srcs a b).take q) ((Gr.alls b).length:Int) (q:Int)) (Gr.srcs a b):=by
 obtain⟨ca,cb,hle,hsub⟩:=(Gr.fts_iff a b).1 h
 have b6:=(Gr.chk_ok cb).1
 have hll:=Gr.alls_length b
 have hc:=Gr.cnt_ok cb
 have hsl:=Gr.srcs_length a b h
 apply down
 ·rw [List.take_of_length_le (by omega)]
  refine Ev.step (fun k=>?_) (Ev.now _)
  rw [fap.l0,iN (by omega)]
 ·intro q hq ih
  have hlen:(Gr.alls b)[q].length=b.length:=by rw [Gr.alls_get,Gr.dig_length]
  have e:(Gr.srcs a b).take (q + 1)=(Gr.srcs a b).take q ++ [Gr.num a (Gr.sat a ((Gr.alls b)[q].drop (b.length - a.length)))]:=by
   rw [List.take_succ_eq_append_getElem (by omega),Gr.srcs_get a b h,Gr.alls_get];rfl
  rw [e] at ih
  refine Ev.step (fun k=>?_) (srcs_1 a b (Gr.alls b) hle b6 q hq (by omega) hlen _ (by rw [List.length_take];omega) ca (by rw [Gr.alls_get];exact Gr.src_in h _) _ ih 0 (by omega) [] (by simp))
  rw [fap.l0,ip (by omega)];rfl
theorem sources (a b:List Int):Ev (fun k=>fap.f k a b) (Gr.srcs a b):=by
 refine Ev.congr (fun k=>by rw [fap.f]) (Ev.bind (ref_fits a b) ?_)
 by_cases h:Gr.fts a b=true
 ·simp only [ip h]
  refine Ev.bind (ref_all b) ?_
  have:=srcs_0 a b h 0 (by omega)
  rw [List.take_zero] at this
  exact this
 ·simp only [iN h]
  unfold Gr.srcs
  rw [iN h]
  exact Ev.now _
theorem rplace20_l (d r:List Int)(hok:Gr.chk d=0):∀ i,i≤(Gr.alls d).length→(Gr.ind d r=true→(i:Int)≤Gr.num d r) →
  Ev (fun k=>fan.l0 k r (Gr.alls d) ((Gr.alls d).length:Int) (i:Int)) (Gr.plr d r):=by
 obtain⟨h6,h1,h2⟩:=Gr.chk_ok hok
 have hlen:=Gr.alls_length d
 rw [(Gr.cnt_ok hok).1] at hlen
 apply down
 ·intro hi
  have:¬ Gr.ind d r=true:=fun hh=>by
   have:=hi hh
   unfold Gr.ind at hh
   simp only [Bool.and_eq_true] at hh
   have:=(Gr.num_lt d r h1 hh.2).2
   omega
  unfold Gr.plr
  rw [iN this]
  refine Ev.step (fun k=>?_) (Ev.now _)
  rw [fan.l0,iN (by omega)]
 ·intro i hi ih hle
  have hs:=rsame (Gr.dig d (i:Int)) r (by rw [Gr.dig_length];omega)
  refine Ev.step (f:=fun k=>(fak.f k (Gr.dig d (i:Int)) r).bind fun t=>if t=true then some (i:Int)else fan.l0 k r (Gr.alls d) ((Gr.alls d).length:Int) ((i + 1:Nat):Int)) (fun k=>?_) (Ev.bind hs ?_)
  ·rw [fan.l0,ip (by omega),ip (by omega),ip (by omega),rdl _ i hi,Gr.alls_get,nx i _ hi (by omega)]
  ·by_cases e:Gr.dig d (i:Int)=r
   ·rw [decide_eq_true e]
    simp only [if_true]
    have hp:Gr.plr d r=(i:Int):=by
     unfold Gr.plr Gr.ind
     rw [← e,decide_eq_true hok,Gr.inb_dig d h1,Bool.and_self,ip rfl]
     exact Gr.num_dig_lt d h1 _ (by omega) (by omega)
    rw [hp];exact Ev.now _
   ·rw [decide_eq_false e]
    simp only [Bool.false_eq_true,if_false]
    refine ih (fun hh=>?_)
    have:=hle hh
    rcases Int.lt_or_le (i:Int) (Gr.num d r)with hlt|hge
    ·omega
    ·exfalso
     unfold Gr.ind at hh
     simp only [Bool.and_eq_true] at hh
     have:=Gr.dig_num d r h1 hh.2
     rw [show Gr.num d r=(i:Int) by omega] at this
     exact e this
theorem ref_place20 (d r:List Int):Ev (fun k=>fan.f k d r) (Gr.plr d r):=by
 refine Ev.congr (fun k=>by rw [fan.f]) (Ev.bind (ref_all d) ?_)
 by_cases h:Gr.chk d=0
 ·refine rplace20_l d r h 0 (by omega) (fun hh=>?_)
  unfold Gr.ind at hh
  simp only [Bool.and_eq_true] at hh
  have:=(Gr.num_lt d r (Gr.chk_ok h).2.1 hh.2).1
  omega
 ·unfold Gr.plr Gr.ind Gr.alls
  rw [iN h,decide_eq_false h]
  refine Ev.step (fun k=>?_) (Ev.now _)
  rw [fan.l0,iN (by simp)];simp
theorem mul_bound {a t:Int} (h0:0≤a)(h1:a≤63)(ht:a=0∨(-64 < t∧t < 64)):-4000≤a * t∧a * t≤4000:=by
 rcases ht with rfl|⟨t0,t1⟩
 ·simp
 ·have e1:a * t≤a * 63:=Int.mul_le_mul_of_nonneg_left (by omega) h0
  have e2:a * (-63)≤a * t:=Int.mul_le_mul_of_nonneg_left (by omega) h0
  omega
theorem right_l (o:Int)(d s:List Int) (room:Int)(hok:Gr.chk d=0)(hl:s.length=d.length)(hr0:1≤room)(hr:room≤64):∀ i,i≤d.length→∀ lo hi:Int,-(64 + 4096 * (i:Int))≤lo→lo≤64 + 4096 * (i:Int)→-(64 + 4096 * (i:Int))≤hi→hi≤64 + 4096 * (i:Int) →
  Ev (fun k=>fcg.l0 k room lo hi d (d.length:Int) (i:Int) o d s) (Gr.sok room (d.drop i) (s.drop i) && decide (0≤lo + Gr.low (d.drop i) (s.drop i)) && decide (hi + Gr.hgh (d.drop i) (s.drop i) < room)):=by
 obtain⟨h6,h1,h2⟩:=Gr.chk_ok hok
 apply down
 ·intro lo hi a1 a2 a3 a4
  rw [List.drop_length,← hl,List.drop_length]
  simp only [Gr.sok,Gr.low,Gr.hgh,Bool.true_and,Int.add_zero]
  by_cases h:lo ≥ 0
  ·rw [decide_eq_true (show 0≤lo from h),Bool.true_and]
   refine Ev.step (fun k=>?_) (Ev.now _)
   rw [fcg.l0,iN (by omega),ip h]
  ·rw [decide_eq_false (show ¬ 0≤lo from h),Bool.false_and]
   refine Ev.step (fun k=>?_) (Ev.now _)
   rw [fcg.l0,iN (by omega),iN h]
 ·intro i hi ih lo hg a1 a2 a3 a4
  have hx:=h1 _ (List.getElem_mem hi)
  have hx2:=Gr.ok_le hok _ (List.getElem_mem hi)
  rw [← rdg d i hi] at hx hx2
  rw [dropc d i hi,dropc s i (by omega)]
  simp only [Gr.sok,Gr.low,Gr.hgh]
  by_cases e1:rd d (i:Int)=1
  ·have:=ih lo hg (by omega) (by omega) (by omega) (by omega)
   rw [e1]
   simp only [Int.le_refl,decide_true,Bool.true_or,Bool.true_and,Int.sub_self,Int.zero_mul,Int.lt_irrefl,if_false,Int.zero_add]
   refine Ev.step (fun k=>?_) this
   rw [fcg.l0,ip (by omega),ip (by omega),ip (by omega),ip (by omega),fcl.f,ip e1,Option.bind_some,ip rfl,nx i _ hi (by omega),show mn 0 0=0 by decide,show mx 0 0=0 by decide,Int.add_zero,Int.add_zero,w64 (by omega) (by omega),w64 (by omega) (by omega)]
  ·rw [decide_eq_false (show ¬ rd d (i:Int)≤1 by omega),Bool.false_or]
   have hwr:wrap64 (-room)=-room:=w64 (by omega) (by omega)
   by_cases e2:rd s (i:Int) ≥ room
   ·rw [decide_eq_false (show ¬ rd s (i:Int) < room by omega),Bool.and_false,Bool.false_and,Bool.false_and,Bool.false_and]
    refine Ev.step (fun k=>?_) (Ev.now _)
    rw [fcg.l0,ip (by omega),ip (by omega),ip (by omega),ip (by omega),fcl.f,iN e1,ip e2,Option.bind_some,iN (by simp)]
   ·by_cases e3:rd s (i:Int)≤-room
    ·rw [decide_eq_false (show ¬ -room < rd s (i:Int) by omega),Bool.false_and,Bool.false_and,Bool.false_and,Bool.false_and]
     refine Ev.step (fun k=>?_) (Ev.now _)
     rw [fcg.l0,ip (by omega),ip (by omega),ip (by omega),ip (by omega),fcl.f,iN e1,iN e2,hwr,ip e3,Option.bind_some,iN (by simp)]
    ·obtain⟨b1,b2⟩:=mul_bound (a:=rd d (i:Int) - 1) (t:=rd s (i:Int)) (by omega) (by omega) (.inr ⟨by omega,by omega⟩)
     rw [decide_eq_true (show -room < rd s (i:Int) by omega),decide_eq_true (show rd s (i:Int) < room by omega),Bool.true_and,Bool.true_and]
     have hwm:wrap64 (wrap64 (rd d (i:Int) - 1) * rd s (i:Int))=(rd d (i:Int) - 1) * rd s (i:Int):=by rw [w64 (x:=rd d (i:Int) - 1) (by omega) (by omega),w64 (by omega) (by omega)]
     obtain⟨m,hm⟩:∃ m,(rd d (i:Int) - 1) * rd s (i:Int)=m:=⟨_,rfl⟩
     rw [hm] at b1 b2 hwm
     simp only [hm]
     have hmn:mn m 0=if m < 0 then m else 0:=by unfold mn;split <;> split <;> omega
     have hmx:mx m 0=if m < 0 then 0 else m:=by unfold mx;rfl
     have hlo:wrap64 (lo + mn m 0)=lo + if m < 0 then m else 0:=by rw [hmn,w64] <;> split <;> omega
     have hhg:wrap64 (hg + mx m 0)=hg + if m < 0 then 0 else m:=by rw [hmx,w64] <;> split <;> omega
     have:=ih (lo + if m < 0 then m else 0) (hg + if m < 0 then 0 else m) (by split <;> omega) (by split <;> omega) (by split <;> omega) (by split <;> omega)
     rw [← Int.add_assoc,← Int.add_assoc]
     refine Ev.step (fun k=>?_) this
     rw [fcg.l0,ip (by omega),ip (by omega),ip (by omega),ip (by omega),fcl.f,iN e1,iN e2,hwr,iN e3,hwm,Option.bind_some,ip rfl,nx i _ hi (by omega),hlo,hhg]
theorem view_rgt (o:Int)(d s:List Int) (room:Int):Ev (fun k=>fcg.f k o d s room) (Gr.rgt o d s room):=by
 have no:¬ Gr.vok o d s room→Gr.rgt o d s room=false:=fun h=>by unfold Gr.rgt;rw [decide_eq_false h];rfl
 have stop:¬ Gr.vok o d s room→Ev (fun k=>fcg.j0 k room true o d s) (Gr.rgt o d s room):=fun h=>by
  rw [no h]
  refine Ev.step (fun k=>?_) (Ev.now _)
  rw [fcg.j0,ip rfl]
 refine Ev.congr (fun k=>by rw [fcg.f,shape_check,Option.bind_some]) ?_
 by_cases h1:Gr.chk d=0
 ·simp only [ip h1]
  by_cases h2:(s.length:Int)=(d.length:Int)
  ·simp only [ip h2]
   by_cases h3:room > 64
   ·simp only [ip h3];exact stop (fun hv=>by have:=hv.2.2.1;omega)
   ·simp only [iN h3]
    by_cases h4:o < 0
    ·simp only [ip h4];exact stop (fun hv=>by have:=hv.2.2.2.1;omega)
    ·simp only [iN h4]
     by_cases h5:o ≥ room
     ·rw [decide_eq_true h5];exact stop (fun hv=>by have:=hv.2.2.2.2.1;omega)
     ·rw [decide_eq_false h5]
      have:=right_l o d s room h1 (by omega) (by omega) (by omega) 0 (by omega) o o (by omega) (by omega) (by omega) (by omega)
      rw [List.drop_zero,List.drop_zero] at this
      have e:Gr.rgt o d s room=(Gr.sok room d s && decide (0≤o + Gr.low d s) && decide (o + Gr.hgh d s < room)):=by
       have hd:decide (Gr.vok o d s room)=Gr.sok room d s:=by
        by_cases hs:Gr.sok room d s=true
        ·exact(decide_eq_true ⟨h1,by omega,by omega,by omega,by omega,hs⟩).trans hs.symm
        ·exact(decide_eq_false (fun hv=>hs hv.2.2.2.2.2)).trans (Bool.eq_false_iff.2 hs).symm
       unfold Gr.rgt;rw [hd]
      rw [e]
      refine Ev.step (fun k=>?_) this
      rw [fcg.j0,iN (by simp)];rfl
  ·simp only [iN h2];exact stop (fun hv=>by have:=hv.2.1;omega)
 ·simp only [iN h1];exact stop (fun hv=>h1 hv.1)
theorem view_rgt64 (o:Int)(d s:List Int):Ev (fun k=>fcm.f k o d s) (Gr.rgt o d s 64) :=
 Ev.congr (fun k=>by rw [fcm.f]) (Ev.bind (view_rgt o d s 64) (Ev.now _))
theorem rws_drop {d s:List Int} (h:Gr.rws d s=true):∀ i,Gr.rws (d.drop i) (s.drop i)=true:=by
 intro i
 induction i generalizing d s with
 | zero=>simpa using h
 | succ i ih =>
  cases d with
  | nil=>simp [Gr.rws]
  | cons x d =>
   cases s with
   | nil=>simp;cases d.drop i <;> rfl
   | cons t s =>
    simp only [Gr.rws,Bool.and_eq_true] at h
    simpa using ih h.1
theorem vrow_l (o:Int)(d s:List Int)(hok:Gr.chk d=0)(hl:s.length=d.length):∀ i,i≤d.length→Gr.rws (d.drop i) (s.drop i)=true →
  Ev (fun k=>fch.l0 k (Gr.prod (d.drop i)) ((i:Int) - 1) o d s) (Gr.rws d s):=by
 obtain⟨h6,h1,h2⟩:=Gr.chk_ok hok
 intro i
 induction i with
 | zero =>
  intro _ h
  rw [List.drop_zero,List.drop_zero] at h
  rw [h]
  refine Ev.step (fun k=>?_) (Ev.now _)
  rw [fch.l0,iN (by omega)]
 | succ i ih =>
  intro hi h
  have hlt:i < d.length:=by omega
  have hd:d.drop i=rd d (i:Int) :: d.drop (i + 1):=dropc d i hlt
  have hs:s.drop i=rd s (i:Int) :: s.drop (i + 1):=dropc s i (by omega)
  have hx:1≤rd d (i:Int):=by rw [rdg d i hlt];exact h1 _ (List.getElem_mem hlt)
  have hx2:rd d (i:Int)≤64:=by rw [rdg d i hlt];exact Gr.ok_le hok _ (List.getElem_mem hlt)
  have hp:=Gr.prod_pos (d.drop (i + 1)) (fun y hy=>h1 y (List.mem_of_mem_drop hy))
  have hpi:=(Gr.chk_ok (Gr.ok_drop hok i)).2.2
  have hpe:Gr.prod (d.drop i)=rd d (i:Int) * Gr.prod (d.drop (i + 1)):=by rw [hd];rfl
  rw [hpe] at ih hpi
  have hw:wrap64 (Gr.prod (d.drop (i + 1)) * rd d (i:Int))=rd d (i:Int) * Gr.prod (d.drop (i + 1)):=by
   have:0≤rd d (i:Int) * Gr.prod (d.drop (i + 1)):=Int.mul_nonneg (by omega) (by omega)
   rw [Int.mul_comm,w64 (by omega) (by omega)]
  have hri:Gr.rws (d.drop i) (s.drop i)=(decide (rd d (i:Int)≤1) || decide (rd s (i:Int)=Gr.prod (d.drop (i + 1)))):=by
   rw [hd,hs];simp only [Gr.rws,h,Bool.true_and]
  by_cases e1:rd d (i:Int) > 1
  ·by_cases e2:rd s (i:Int)=Gr.prod (d.drop (i + 1))
   ·refine Ev.step (fun k=>?_) (ih (by omega) (by rw [hri,decide_eq_true e2,Bool.or_true]))
    rw [fch.l0,show (((i + 1:Nat):Int) - 1)=(i:Int) by omega,ip (by omega),ip (by omega),ip (by omega),ip e1,ip (by omega),ip e2,hw,w64 (by omega) (by omega)]
   ·have er:Gr.rws d s=false:=by
     rw [Bool.eq_false_iff]
     intro hr
     have:=rws_drop hr i
     rw [hri,decide_eq_false e2,decide_eq_false (by omega)] at this
     cases this
    rw [er]
    refine Ev.step (fun k=>?_) (Ev.now _)
    rw [fch.l0,show (((i + 1:Nat):Int) - 1)=(i:Int) by omega,ip (by omega),ip (by omega),ip (by omega),ip e1,ip (by omega),iN e2]
  ·refine Ev.step (fun k=>?_) (ih (by omega) (by rw [hri,decide_eq_true (by omega),Bool.true_or]))
   rw [fch.l0,show (((i + 1:Nat):Int) - 1)=(i:Int) by omega,ip (by omega),ip (by omega),ip (by omega),iN e1,hw,w64 (by omega) (by omega)]
theorem view_row (o:Int)(d s:List Int):Ev (fun k=>fch.f k o d s) (Gr.row (Gr.cls o d s 64)):=by
 refine Ev.congr (fun k=>by rw [fch.f]) (Ev.bind (view_rgt64 o d s) ?_)
 by_cases h:Gr.rgt o d s 64=true
 ·rw [← Gr.rws_row h,h]
  simp only [if_true]
  have hv:=(Gr.rgt_ok h).1
  have h6:=(Gr.chk_ok hv.1).1
  have:=vrow_l o d s hv.1 hv.2.1 d.length (by omega) (by rw [List.drop_length];rfl)
  rw [List.drop_length] at this
  refine Ev.congr (fun k=>?_) this
  rw [w64 (by omega) (by omega)];rfl
 ·rw [Gr.cls_none h,Bool.eq_false_iff.2 h]
  exact Ev.now _
theorem view_whole (d:List Int)(hn:d.length≤100):Ev (fun k=>fcj.f k d) (if Gr.chk d=0 then(0,d,Gr.stp d)else(0,[],[])):=by
 refine Ev.congr (fun k=>by rw [fcj.f,shape_check,Option.bind_some]) ?_
 by_cases h:Gr.chk d=0
 ·rw [ip h]
  simp only [ip h]
  refine Ev.congr (fun k=>by rw [fbw.f,ip (by omega),Option.bind_some]) ?_
  refine Ev.bind (shape_steps d) ?_
  rw [show Gr.steps d=Gr.stp d by unfold Gr.steps;rw [ip h]]
  exact Ev.now _
 ·rw [iN h]
  simp only [iN h]
  exact Ev.now _
theorem rd_at0 (l:List Int) (i:Int):rd l i=Gr.at0 l i:=rfl
theorem copied (o:Int)(d s:List Int)(hd:d.length≤100)(hs:s.length≤100):fck.f o d s=some (o,d,s):=by
 rw [fck.f,fbw.f,ip (by omega),Option.bind_some,fbw.f,ip (by omega),Option.bind_some]
theorem steps_bound {o:Int} {d s:List Int} {r:Int} (h:Gr.rgt o d s r=true)(i:Nat)(hi:i < d.length):1≤Gr.at0 d (i:Int)∧Gr.at0 d (i:Int)≤64∧(1 < Gr.at0 d (i:Int)→-64 < Gr.at0 s (i:Int)∧Gr.at0 s (i:Int) < 64):=by
 obtain⟨v1,v2,v3,v4,v5,v6⟩:=(Gr.rgt_ok h).1
 have hx:=(Gr.chk_ok v1).2.1 _ (List.getElem_mem hi)
 have hx2:=Gr.ok_le v1 _ (List.getElem_mem hi)
 have hg:=Gr.sok_get v6 i hi (by omega)
 rw [Gr.at0_get d i hi,Gr.at0_get s i (by omega)]
 exact⟨hx,hx2,fun hlt=>by rcases hg with hg|hg <;> omega⟩
theorem view_flip (o:Int)(d s:List Int) (a:Int):Ev (fun k=>fcd.f k o d s a) (Gr.flp o d s a):=by
 refine Ev.congr (fun k=>by rw [fcd.f]) (Ev.bind (view_rgt64 o d s) ?_)
 unfold Gr.flp
 by_cases h:Gr.rgt o d s 64=true
 ·rw [h]
  simp only [if_true]
  obtain⟨v1,v2,v3,v4,v5,v6⟩:=(Gr.rgt_ok h).1
  have h6:=(Gr.chk_ok v1).1
  by_cases h0:a < 0
  ·rw [ip (.inl h0)]
   simp only [ip h0]
   refine Ev.step (fun k=>?_) (Ev.now _)
   rw [fcd.j0,ip rfl]
  ·simp only [iN h0]
   by_cases h1:a ≥ (d.length:Int)
   ·rw [decide_eq_true h1,ip (.inr h1)]
    refine Ev.step (fun k=>?_) (Ev.now _)
    rw [fcd.j0,ip rfl]
   ·rw [decide_eq_false h1,iN (by omega)]
    obtain⟨i,rfl⟩:=Int.eq_ofNat_of_zero_le (show 0≤a by omega)
    obtain⟨b1,b2,b3⟩:=steps_bound h i (by omega)
    refine Ev.step (f:=fun k=>some _) (fun k=>?_) (Ev.now _)
    rw [fcd.j0,iN (by simp),copied o d s (by omega) (by omega),Option.bind_some,ip (by omega),ip (by omega),rd_at0,rd_at0]
    by_cases h2:1 < Gr.at0 d (i:Int)
    ·obtain⟨c1,c2⟩:=b3 h2
     obtain⟨m1,m2⟩:=mul_bound (a:=Gr.at0 d (i:Int) - 1) (t:=Gr.at0 s (i:Int)) (by omega) (by omega) (.inr ⟨c1,c2⟩)
     rw [ip h2,ip h2,ip (by omega),ip (by simp only;omega),w64 (x:=Gr.at0 d (i:Int) - 1) (by omega) (by omega),w64 (x:=(Gr.at0 d (i:Int) - 1) * Gr.at0 s (i:Int)) (by omega) (by omega),w64 (by omega) (by omega),w64 (by omega) (by omega)]
    ·rw [iN h2,iN h2]
 ·rw [Bool.eq_false_iff.2 h]
  exact Ev.now _
theorem permute_l (o:Int)(d s dims axes:List Int)(hl:axes.length≤1000000000)(hr:∀ a ∈ axes,0≤a∧a < (s.length:Int)):∀ i,i≤axes.length→∀ ac:List Int,ac.length≤i →
  Ev (fun k=>fce.l0 k dims ac axes (axes.length:Int) (i:Int) o d s) (o,dims,ac ++ Gr.prm s (axes.drop i),0):=by
 apply down
 ·intro ac _
  rw [List.drop_length]
  simp only [Gr.prm,List.map_nil,List.append_nil]
  refine Ev.step (fun k=>?_) (Ev.now _)
  rw [fce.l0,iN (by omega)]
 ·intro i hi ih ac hac
  have hx:=hr _ (List.getElem_mem hi)
  rw [← rdg axes i hi] at hx
  have:=ih (ac ++ [rd s (rd axes (i:Int))]) (by simp;omega)
  rw [List.append_assoc] at this
  rw [dropc axes i hi]
  refine Ev.step (fun k=>?_) this
  rw [fce.l0,ip (by omega),ip (by omega),ip (by omega),ip hx.1,ip hx.2,ip (by omega),nx i _ hi hl]
theorem view_permute (o:Int)(d s axes:List Int)(hl:axes.length≤1000000000):Ev (fun k=>fce.f k o d s axes) (Gr.pmt o d s axes):=by
 refine Ev.congr (fun k=>by rw [fce.f]) (Ev.bind (view_rgt64 o d s) ?_)
 unfold Gr.pmt
 by_cases h:Gr.rgt o d s 64=true
 ·rw [h]
  simp only [if_true]
  have v2:=(Gr.rgt_ok h).1.2.1
  refine Ev.bind (shape_perm d axes hl) ?_
  by_cases h2:(Gr.perm d axes).2=0
  ·obtain⟨p1,p2,p3,p4,p5⟩:=Gr.perm_ok h2
   simp only [ip h2,p5]
   exact permute_l o d s (Gr.prm d axes) axes hl (fun a ha=>by have:=p2.range a ha;omega) 0 (by omega) [] (by simp)
  ·simp only [iN h2]
   exact Ev.now _
 ·rw [Bool.eq_false_iff.2 h]
  exact Ev.now _
theorem number_l (d r:List Int)(hok:Gr.chk d=0)(hi2:Gr.inb d r=true):∀ i,i≤r.length→∀ n:Int,0≤n→n * Gr.prod (d.drop i) + Gr.num (d.drop i) (r.drop i)≤64→Gr.inb (d.drop i) (r.drop i)=true →
  Ev (fun k=>fba.l0 k d r n (d.length:Int) (i:Int)) (n * Gr.prod (d.drop i) + Gr.num (d.drop i) (r.drop i)):=by
 obtain⟨h6,h1,h2⟩:=Gr.chk_ok hok
 have hl:=Gr.inb_length hi2
 apply down
 ·intro n hn hb _
  rw [hl,List.drop_length,← hl,List.drop_length]
  simp only [Gr.prod,Gr.num,Int.mul_one,Int.add_zero]
  refine Ev.step (fun k=>?_) (Ev.now _)
  rw [fba.l0,iN (by omega)]
 ·intro i hi ih n hn hb hin
  have hq:=Gr.num_lt (d.drop (i + 1)) (r.drop (i + 1)) (fun x hx=>h1 x (List.mem_of_mem_drop hx))
  have hp:=Gr.prod_pos (d.drop (i + 1)) (fun x hx=>h1 x (List.mem_of_mem_drop hx))
  have hx1:1≤rd d (i:Int):=by rw [rdg d i (by omega)];exact h1 _ (List.getElem_mem _)
  rw [dropc d i (by omega),dropc r i hi] at hin hb ⊢
  simp only [Gr.inb,Bool.and_eq_true,decide_eq_true_eq] at hin
  obtain⟨q1,q2⟩:=hq hin.2
  simp only [Gr.prod,Gr.num] at hb ⊢
  have e:n * (rd d (i:Int) * Gr.prod (d.drop (i + 1))) + (rd r (i:Int) * Gr.prod (d.drop (i + 1)) + Gr.num (d.drop (i + 1)) (r.drop (i + 1)))=(n * rd d (i:Int) + rd r (i:Int)) * Gr.prod (d.drop (i + 1)) + Gr.num (d.drop (i + 1)) (r.drop (i + 1)):=by
   rw [Int.add_mul,← Int.mul_assoc];omega
  rw [e] at hb ⊢
  have b1:0≤n * rd d (i:Int):=Int.mul_nonneg hn (by omega)
  have b2:(n * rd d (i:Int) + rd r (i:Int)) * 1≤(n * rd d (i:Int) + rd r (i:Int)) * Gr.prod (d.drop (i + 1)):=Int.mul_le_mul_of_nonneg_left hp (by omega)
  refine Ev.step (fun k=>?_) (ih _ (by omega) hb hin.2)
  rw [fba.l0,ip (by omega),ip (by omega),ip (by omega),ip (by omega),show wrap64 (n * rd d (i:Int))=n * rd d (i:Int) from w64 (by omega) (by omega),w64 (by omega) (by omega),nx i _ hi (by omega)]
theorem number (d r:List Int)(hok:Gr.chk d=0)(h:Gr.inb d r=true):Ev (fun k=>fba.f k d r) (Gr.num d r):=by
 obtain⟨h6,h1,h2⟩:=Gr.chk_ok hok
 have hb:=Gr.num_lt d r h1 h
 have:=number_l d r hok h 0 (by omega) 0 (by omega) (by simp;omega) (by simpa using h)
 rw [List.drop_zero,List.drop_zero,Int.zero_mul,Int.zero_add] at this
 exact Ev.congr (fun k=>by rw [fba.f];rfl) this
theorem reshape_l (d to_:List Int)(ht:to_.length≤100)(n:Nat)(hn:n≤64):∀ i,i≤n→Ev (fun k=>faw.l0 k to_ ((List.range i).map fun i:Nat=>(i:Int)) (n:Int) (i:Int)) (to_,(List.range n).map fun i:Nat=>(i:Int),0):=by
 apply down
 ·refine Ev.step (fun k=>?_) (Ev.now _)
  rw [faw.l0,iN (by omega)]
  simp only [Option.bind_some,List.nil_append]
  rw [ip (by simp;omega)]
 ·intro i hi ih
  rw [List.range_succ,List.map_append,List.map_singleton] at ih
  refine Ev.step (fun k=>?_) ih
  rw [faw.l0,ip (by omega),ip (by simp;omega),nx i _ hi (by omega)]
theorem ref_reshape (d to_:List Int):Ev (fun k=>faw.f k d to_) (Gr.rsp d to_):=by
 refine Ev.congr (fun k=>by rw [faw.f]) (Ev.bind (ref_check to_) ?_)
 unfold Gr.rsp
 by_cases h:Gr.chk to_=0
 ·simp only [ip h]
  refine Ev.bind (ref_count to_) (Ev.bind (ref_count d) ?_)
  by_cases h2:Gr.cnt to_=Gr.cnt d
  ·simp only [ip h2]
   refine Ev.bind (ref_count d) ?_
   have hc:=Gr.cnt_ok h
   obtain⟨n,hn⟩:=Int.eq_ofNat_of_zero_le (show 0≤Gr.cnt d by omega)
   have:=reshape_l d to_ (by have:=(Gr.chk_ok h).1;omega) n (by omega) 0 (by omega)
   rw [hn]
   exact this
  ·simp only [iN h2]
   exact Ev.now _
 ·simp only [iN h]
  exact Ev.now _
theorem take_l (d:List Int)(hok:Gr.chk d=0)(i0:Nat)(hi0:i0 < d.length)(marks:List Int)(hm:∀ m ∈ marks,0≤m∧m < Gr.at0 d (i0:Int))(out:List Int)(hout:out=d.set i0 (marks.length:Int))(ho:Gr.chk out=0):∀ q,q≤(Gr.alls out).length→∀ ac:List Int,ac.length≤q →
  Ev (fun k=>faz.l0 k d (i0:Int) marks out (Gr.alls out) ac ((Gr.alls out).length:Int) (q:Int)) (out,ac ++ ((Gr.alls out).drop q).map (fun p=>Gr.num d (Gr.tkf (i0:Int) marks p)),0):=by
 have hlen:=Gr.alls_length out
 have h64:=(Gr.cnt_ok ho).2.2
 apply down
 ·intro ac _
  rw [List.drop_length]
  simp only [List.map_nil,List.append_nil]
  refine Ev.step (fun k=>?_) (Ev.now _)
  rw [faz.l0,iN (by omega)]
 ·intro q hq ih ac hac
  have hp:=(Gr.mem_alls ho).1 (List.getElem_mem hq)
  have hpl:=Gr.inb_length hp
  obtain⟨_,hpi⟩:=(Gr.inb_iff _ _).1 hp
  have hol:out.length=d.length:=by rw [hout];simp
  have h6:=(Gr.chk_ok hok).1
  have ha:=hpi i0 (by omega)
  have e1:Gr.at0 out (i0:Int)=(marks.length:Int):=by rw [hout];exact Gr.at0_set_same _ _ hi0 _
  rw [e1] at ha
  obtain⟨j,hj⟩:=Int.eq_ofNat_of_zero_le ha.1
  have hjl:j < marks.length:=by omega
  have hmj:=hm _ (List.getElem_mem hjl)
  have hnum:Gr.inb d (Gr.tkf (i0:Int) marks (Gr.alls out)[q])=true:=by
   refine(Gr.inb_iff _ _).2 ⟨by unfold Gr.tkf;simp;omega,fun b hb=>?_⟩
   unfold Gr.tkf
   rw [Int.toNat_natCast]
   by_cases e:i0=b
   ·subst e
    rw [Gr.at0_set_same _ _ (by omega),hj,Gr.at0_get _ _ hjl]
    exact hmj
   ·rw [Gr.at0_set_other _ _ _ e]
    have:=hpi b (by omega)
    have e2:Gr.at0 out (b:Int)=Gr.at0 d (b:Int):=by rw [hout];exact Gr.at0_set_other _ _ _ e _
    rw [e2] at this
    exact this
  have hn:=number d _ hok hnum
  have hr:=ih (ac ++ [Gr.num d (Gr.tkf (i0:Int) marks (Gr.alls out)[q])]) (by simp;omega)
  rw [List.append_assoc] at hr
  rw [List.drop_eq_getElem_cons hq,List.map_cons]
  have hrd:rd (Gr.alls out)[q] (i0:Int)=(j:Int):=hj
  refine Ev.step (f:=fun k=>(fba.f k d (Gr.tkf (i0:Int) marks (Gr.alls out)[q])).bind fun t591=>(if ac.length < 17592186044416 then(faz.l0 k d (i0:Int) marks out (Gr.alls out) (ac ++ [t591]) ((Gr.alls out).length:Int) ((q + 1:Nat):Int))else(none))) (fun k=>?_) (Ev.bind hn ?_)
  ·rw [faz.l0,ip (by omega),Option.bind_some,ip (by omega),ip (by omega),rdl _ q hq,ip (by simp;omega),Option.bind_some,List.nil_append,ip (by omega),ip (by omega),hrd,ip (by omega),ip (by omega),nx q _ hq (by omega),Int.toNat_natCast]
   rw [show (Gr.alls out)[q].set i0 (rd marks (j:Int))=Gr.tkf (i0:Int) marks (Gr.alls out)[q] by unfold Gr.tkf;rw [Int.toNat_natCast,hj];rfl]
  ·exact Ev.congr (fun k=>by rw [ip (by omega)]) hr
theorem ref_take (d:List Int)(hok:Gr.chk d=0)(i0:Nat)(hi0:i0 < d.length)(marks:List Int)(hm:∀ m ∈ marks,0≤m∧m < Gr.at0 d (i0:Int)):Ev (fun k=>faz.f k d (i0:Int) marks) (Gr.rtk d (i0:Int) marks):=by
 refine Ev.congr (fun k=>by rw [faz.f]) (Ev.bind (ref_with d (i0:Int) (marks.length:Int)) ?_)
 unfold Gr.rtk
 by_cases h:(Gr.withd d (i0:Int) (marks.length:Int)).2=0
 ·simp only [ip h]
  have hw:Gr.chk (d.set i0 (marks.length:Int))=0∧(Gr.withd d (i0:Int) (marks.length:Int)).1=d.set i0 (marks.length:Int):=by
   unfold Gr.withd at h ⊢
   rw [ip hok,iN (by omega),Int.toNat_natCast] at h
   rw [ip hok,iN (by omega),Int.toNat_natCast]
   by_cases h2:Gr.chk (d.set i0 (marks.length:Int))=0
   ·rw [ip h2];exact⟨h2,rfl⟩
   ·rw [iN h2] at h;exact absurd h h2
  rw [hw.2]
  refine Ev.bind (ref_all _) ?_
  have:=take_l d hok i0 hi0 marks hm _ rfl hw.1 0 (by omega) [] (by simp)
  rw [List.drop_zero,List.nil_append] at this
  exact this
 ·simp only [iN h]
  exact Ev.now _
theorem flip_l (d:List Int)(hok:Gr.chk d=0)(i0:Nat)(hi0:i0 < d.length)(n:Nat)(hn:Gr.at0 d (i0:Int)=(n:Int))(hn64:n≤64)(r:List Int×List Int×Int)(h:Ev (fun k=>faz.f k d (i0:Int) ((List.range n).map fun i:Nat=>Gr.at0 d (i0:Int) - 1 - (i:Int))) r):∀ i,i≤n →
  Ev (fun k=>fau.l0 k d (i0:Int) ((List.range i).map fun i:Nat=>Gr.at0 d (i0:Int) - 1 - (i:Int)) (Gr.at0 d (i0:Int)) (i:Int)) r:=by
 apply down
 ·refine Ev.step (fun k=>by rw [fau.l0,iN (by omega)]) (Ev.bind h (Ev.now _))
 ·intro i hi ih
  rw [List.range_succ,List.map_append,List.map_singleton] at ih
  refine Ev.step (fun k=>?_) ih
  rw [fau.l0,ip (by omega),ip (by omega),ip (by omega),ip (by simp;omega),nx i n hi (by omega),show rd d (i0:Int)=Gr.at0 d (i0:Int) from rfl,w64 (x:=Gr.at0 d (i0:Int) - 1) (by omega) (by omega),w64 (by omega) (by omega)]
theorem ref_flip (d:List Int)(hok:Gr.chk d=0) (a:Int):Ev (fun k=>fau.f k d a) (Gr.rfl_ d a):=by
 unfold Gr.rfl_
 by_cases h0:a < 0
 ·rw [ip (.inl h0)]
  refine Ev.congr (fun k=>by rw [fau.f,ip h0]) (Ev.step (fun k=>?_) (Ev.now _))
  rw [fau.j0,ip rfl]
 ·refine Ev.congr (fun k=>by rw [fau.f,iN h0]) ?_
  by_cases h1:a ≥ (d.length:Int)
  ·rw [ip (.inr h1),decide_eq_true h1]
   refine Ev.step (fun k=>?_) (Ev.now _)
   rw [fau.j0,ip rfl]
  ·rw [iN (by omega),decide_eq_false h1]
   obtain⟨i0,rfl⟩:=Int.eq_ofNat_of_zero_le (show 0≤a by omega)
   have hx:=(Gr.chk_ok hok).2.1 _ (List.getElem_mem (show i0 < d.length by omega))
   have hx2:=Gr.ok_le hok _ (List.getElem_mem (show i0 < d.length by omega))
   rw [← Gr.at0_get d i0 (by omega)] at hx hx2
   obtain⟨n,hn⟩:=Int.eq_ofNat_of_zero_le (show 0≤Gr.at0 d (i0:Int) by omega)
   have ht:=ref_take d hok i0 (by omega) ((List.range n).map fun i:Nat=>Gr.at0 d (i0:Int) - 1 - (i:Int)) (fun m hm=>by
    simp only [List.mem_map,List.mem_range] at hm
    obtain⟨i,hi,rfl⟩:=hm
    omega)
   have:=flip_l d hok i0 (by omega) n hn (by omega) _ ht 0 (by omega)
   rw [hn,Int.toNat_natCast,← hn]
   refine Ev.step (fun k=>?_) this
   rw [fau.j0,iN (by simp),ip (by omega),ip (by omega)];rfl
/-- The marks up to n, all in range. -/
def MOk (x start step:Int) (n:Nat):Prop:=∀ i:Nat,i < n→0≤start + (i:Int) * step∧start + (i:Int) * step < x
theorem mrk_some {x start step:Int} {n:Nat} (h:MOk x start step n):Gr.mrk x start step n=some ((List.range n).map fun i:Nat=>start + (i:Int) * step):=by
 unfold Gr.mrk
 rw [ip]
 rw [List.all_eq_true]
 intro i hi
 rw [List.mem_range] at hi
 have:=h i hi
 simp [this]
theorem mrk_none {x start step:Int} {n:Nat} (h:¬ MOk x start step n):Gr.mrk x start step n=none:=by
 unfold Gr.mrk
 rw [iN]
 intro hh
 rw [List.all_eq_true] at hh
 refine h (fun i hi=>?_)
 have:=hh i (by rw [List.mem_range];exact hi)
 simpa using this
theorem slice_l (d:List Int)(i0:Nat)(hi0:i0 < d.length)(hx2:Gr.at0 d (i0:Int)≤64) (start step:Int)(hs0:0≤start)(hs1:start < Gr.at0 d (i0:Int))(n:Nat)(hn64:n≤64)(hst:1 < n→-64≤step∧step≤64)(r:List Int×List Int×Int)
  (h:MOk (Gr.at0 d (i0:Int)) start step n→Ev (fun k=>faz.f k d (i0:Int) ((List.range n).map fun i:Nat=>start + (i:Int) * step)) r) (h2:¬ MOk (Gr.at0 d (i0:Int)) start step n→r=([],[],11)):∀ i,i≤n→MOk (Gr.at0 d (i0:Int)) start step i →
  Ev (fun k=>fay.l0 k d (i0:Int) start step ((List.range i).map fun i:Nat=>start + (i:Int) * step) (n:Int) (i:Int)) r:=by
 apply down
 ·intro hm
  refine Ev.step (fun k=>by rw [fay.l0,iN (by omega)]) (Ev.bind (h hm) (Ev.now _))
 ·intro i hi ih hm
  by_cases hz:i=0
  ·subst hz
   have hm1:MOk (Gr.at0 d (i0:Int)) start step (0 + 1):=fun j hj=>by
    obtain rfl:j=0:=by omega
    simp;omega
   refine Ev.step (fun k=>?_) (ih hm1)
   rw [fay.l0,ip (by omega),iN (by omega),iN (by omega),ip (by omega),ip (by omega),iN (by show ¬ start ≥ Gr.at0 d (i0:Int);omega),ip (by simp),nx 0 n hi (by omega)]
   simp
  ·obtain⟨b1,b2⟩:=hst (by omega)
   have e1:(i:Int) * step≤(i:Int) * 64:=Int.mul_le_mul_of_nonneg_left b2 (by omega)
   have e2:(i:Int) * (-64)≤(i:Int) * step:=Int.mul_le_mul_of_nonneg_left b1 (by omega)
   have hw:wrap64 (start + wrap64 ((i:Int) * step))=start + (i:Int) * step:=by rw [w64 (x:=(i:Int) * step) (by omega) (by omega),w64 (by omega) (by omega)]
   by_cases c1:start + (i:Int) * step < 0
   ·rw [h2 (fun hh=>by have:=hh i hi;omega)]
    refine Ev.step (fun k=>?_) (Ev.now _)
    rw [fay.l0,ip (by omega),ip (by omega),hw,ip c1]
   ·by_cases c2:start + (i:Int) * step ≥ Gr.at0 d (i0:Int)
    ·rw [h2 (fun hh=>by have:=hh i hi;omega)]
     refine Ev.step (fun k=>?_) (Ev.now _)
     rw [fay.l0,ip (by omega),ip (by omega),hw,iN c1,ip (by omega),ip (by omega),rd_at0,ip c2]
    ·have hm1:MOk (Gr.at0 d (i0:Int)) start step (i + 1):=fun j hj=>by
      rcases Nat.lt_or_ge j i with hlt|hge
      ·exact hm j hlt
      ·obtain rfl:j=i:=by omega
       omega
     have:=ih hm1
     rw [List.range_succ,List.map_append,List.map_singleton] at this
     refine Ev.step (fun k=>?_) this
     rw [fay.l0,ip (by omega),ip (by omega),hw,iN c1,ip (by omega),ip (by omega),rd_at0,iN c2,ip (by simp;omega),nx i n hi (by omega)]
theorem ref_slice (d:List Int)(hok:Gr.chk d=0) (a start count step:Int):Ev (fun k=>fay.f k d a start count step) (Gr.rsl d a start count step):=by
 unfold Gr.rsl
 by_cases h0:a < 0
 ·rw [ip (.inl h0)]
  refine Ev.congr (fun k=>by rw [fay.f,ip h0]) (Ev.step (fun k=>?_) (Ev.now _))
  rw [fay.j0,ip rfl]
 ·refine Ev.congr (fun k=>by rw [fay.f,iN h0]) ?_
  by_cases h1:a ≥ (d.length:Int)
  ·rw [ip (.inr h1),decide_eq_true h1]
   refine Ev.step (fun k=>?_) (Ev.now _)
   rw [fay.j0,ip rfl]
  ·rw [iN (by omega),decide_eq_false h1]
   obtain⟨i0,rfl⟩:=Int.eq_ofNat_of_zero_le (show 0≤a by omega)
   have hx:=(Gr.chk_ok hok).2.1 _ (List.getElem_mem (show i0 < d.length by omega))
   have hx2:=Gr.ok_le hok _ (List.getElem_mem (show i0 < d.length by omega))
   rw [← Gr.at0_get d i0 (by omega)] at hx hx2
   have stop:Ev (fun k=>fay.j1 k d (i0:Int) start count step true) ([],[],11):=by
    refine Ev.step (fun k=>?_) (Ev.now _)
    rw [fay.j1,ip rfl]
   have hrd:rd d (i0:Int)=Gr.at0 d (i0:Int):=rfl
   by_cases c1:count < 1
   ·rw [ip (.inl c1)]
    refine Ev.step (fun k=>?_) stop
    rw [fay.j0,iN (by simp),ip c1]
   ·by_cases c2:count > Gr.at0 d (i0:Int)
    ·rw [ip (.inr (.inl c2))]
     refine Ev.step (fun k=>?_) stop
     rw [fay.j0,iN (by simp),iN c1,ip (by omega),ip (by omega),hrd,ip c2]
    ·by_cases c3:start < 0
     ·rw [ip (.inr (.inr (.inl c3)))]
      refine Ev.step (fun k=>?_) stop
      rw [fay.j0,iN (by simp),iN c1,ip (by omega),ip (by omega),hrd,iN c2,ip c3]
     ·by_cases c4:start ≥ Gr.at0 d (i0:Int)
      ·rw [ip (.inr (.inr (.inr (.inl c4))))]
       refine Ev.step (fun k=>?_) stop
       rw [fay.j0,iN (by simp),iN c1,ip (by omega),ip (by omega),hrd,iN c2,iN c3,ip c4]
      ·by_cases c5:1 < count∧(step=0∨64 < step∨step < -64)
       ·rw [ip (.inr (.inr (.inr (.inr c5))))]
        refine Ev.step (fun k=>?_) stop
        rw [fay.j0,iN (by simp),iN c1,ip (by omega),ip (by omega),hrd,iN c2,iN c3,iN c4,ip c5.1]
        by_cases s1:step=0
        ·rw [ip s1]
        ·by_cases s2:step > 64
         ·rw [iN s1,ip s2]
         ·rw [iN s1,iN s2,decide_eq_true (by omega)]
       ·rw [iN (by omega)]
        obtain⟨n,hn⟩:=Int.eq_ofNat_of_zero_le (show 0≤count by omega)
        subst hn
        rw [Int.toNat_natCast]
        have key:=slice_l d i0 (by omega) hx2 start step (by omega) (by omega) n (by omega) (fun hn1=>by omega) (match Gr.mrk (Gr.at0 d (i0:Int)) start step n with|some m=>Gr.rtk d (i0:Int) m|none=>([],[],11))
         (fun hm=>by
          rw [mrk_some hm]
          refine ref_take d hok i0 (by omega) _ (fun m hmm=>?_)
          simp only [List.mem_map,List.mem_range] at hmm
          obtain⟨i,hi,rfl⟩:=hmm
          exact hm i hi) (fun hm=>by rw [mrk_none hm]) 0 (by omega) (fun j hj=>by omega)
        refine Ev.step (f:=fun k=>fay.j1 k d (i0:Int) start (n:Int) step false) (fun k=>?_) (Ev.step (fun k=>?_) key)
        ·rw [fay.j0,iN (by simp),iN c1,ip (by omega),ip (by omega),hrd,iN c2,iN c3,iN c4]
         by_cases s0:(n:Int) > 1
         ·rw [ip s0,iN (by omega),iN (by omega),decide_eq_false (by omega)]
         ·rw [iN s0]
        ·rw [fay.j1,iN (by simp)];rfl
theorem permute_1 (d l:List Int)(hp:Gr.Pm l)(hl:l.length=d.length)(h6:d.length≤6)(out:List Int)(L:List (List Int))(ac:List Int)(q:Nat)(hq:q < L.length)(hqL:L[q].length=l.length)(R:List Int×List Int×Int)
  (h:Ev (fun k=>(fba.f k d (Gr.prm L[q] (Gr.bk l))).bind fun t561=>(if ac.length < 17592186044416 then(fav.l0 k d l out L (ac ++ [t561]) (L.length:Int) (wrap64 ((q:Int) + 1)))else(none))) R):∀ j,j≤l.length→∀ at_:List Int,at_.length=d.length→(∀ m:Nat,m < j→Gr.at0 at_ (Gr.at0 l (m:Int))=Gr.at0 L[q] (m:Int)) →
  Ev (fun k=>fav.l1 k d l out L ac (q:Int) at_ (L.length:Int) (q:Int) (l.length:Int) (j:Int)) R:=by
 apply down
 ·intro at_ hat hm
  have e:at_=Gr.prm L[q] (Gr.bk l):=by
   apply Gr.at0_ext (by rw [Gr.prm_length,Gr.bk_length];omega)
   intro j hj
   obtain⟨m,hml,e1,e2⟩:=Gr.pm_back hp j (by omega)
   rw [Gr.at0_prm _ _ _ (by rw [Gr.bk_length];omega),e2,← e1]
   exact hm m hml
  refine Ev.step (fun k=>?_) h
  rw [fav.l1,iN (by omega),e]
 ·intro j hj ih at_ hat hm
  have hr:=hp.range _ (List.getElem_mem hj)
  rw [← rdg l j hj] at hr
  obtain⟨a,ha⟩:=Int.eq_ofNat_of_zero_le hr.1
  have:=ih (at_.set a (rd L[q] (j:Int))) (by simp [hat]) (fun m hm2=>by
   by_cases e:m=j
   ·subst e
    rw [show Gr.at0 l (m:Int)=(a:Int) from ha,Gr.at0_set_same _ _ (by omega)];rfl
   ·have hml:m < j:=by omega
    have hmr:=hp.range _ (List.getElem_mem (show m < l.length by omega))
    obtain⟨b,hb⟩:=Int.eq_ofNat_of_zero_le hmr.1
    have hb':Gr.at0 l (m:Int)=(b:Int):=by rw [Gr.at0_get l m (by omega)];exact hb
    have hne:a≠b:=fun e2=>by
     have hnd:=(List.nodup_iff_pairwise_ne.1 hp.nodup)
     have:=List.pairwise_iff_getElem.1 hnd m j (by omega) hj hml
     apply this
     rw [hb,← rdg l j hj,ha,e2]
    rw [hb',Gr.at0_set_other _ _ _ hne,← hb']
    exact hm m hml)
  refine Ev.step (fun k=>?_) this
  rw [fav.l1,ip (by omega),ip (by omega),ip (by omega),ip (by omega),ip (by omega),rdl L q hq,ip (by omega),ip (by omega),ip (by omega),ha,Int.toNat_natCast,nx j _ hj (by omega)]
theorem permute_0 (d l:List Int)(hok:Gr.chk d=0)(hp:Gr.Pm l)(hl:l.length=d.length)(out:List Int)(hout:out=Gr.prm d l)(ho:Gr.chk out=0):∀ q,q≤(Gr.alls out).length→∀ ac:List Int,ac.length≤q →
  Ev (fun k=>fav.l0 k d l out (Gr.alls out) ac ((Gr.alls out).length:Int) (q:Int)) (out,ac ++ ((Gr.alls out).drop q).map (fun p=>Gr.num d (Gr.prm p (Gr.bk l))),0):=by
 have hlen:=Gr.alls_length out
 have h64:=(Gr.cnt_ok ho).2.2
 have h6:=(Gr.chk_ok hok).1
 apply down
 ·intro ac _
  rw [List.drop_length]
  simp only [List.map_nil,List.append_nil]
  refine Ev.step (fun k=>?_) (Ev.now _)
  rw [fav.l0,iN (by omega)]
 ·intro q hq ih ac hac
  have hpl:=(Gr.mem_alls ho).1 (List.getElem_mem hq)
  have hpl2:=hpl
  have hol:out.length=l.length:=by rw [hout,Gr.prm_length]
  have hin:Gr.inb d (Gr.prm (Gr.alls out)[q] (Gr.bk l))=true:=by
   have hx:Gr.inb (Gr.prm d l) (Gr.alls out)[q]=true:=by rw [← hout];exact hpl2
   exact Gr.inb_prm hp d _ hl.symm hx
  have hn:=number d _ hok hin
  have hr:=ih (ac ++ [Gr.num d (Gr.prm (Gr.alls out)[q] (Gr.bk l))]) (by simp;omega)
  rw [List.append_assoc] at hr
  rw [List.drop_eq_getElem_cons hq,List.map_cons]
  have:=permute_1 d l hp hl h6 out (Gr.alls out) ac q hq (by rw [Gr.inb_length hpl];exact hol) _ (Ev.bind hn (Ev.congr (fun k=>by rw [ip (by omega),nx q _ hq (by omega)]) hr)) 0 (by omega) (List.replicate d.length 0) (by simp) (fun m hm=>by omega)
  refine Ev.step (fun k=>?_) this
  rw [fav.l0,ip (by omega),ip (by omega),ip (by omega),Int.toNat_natCast];rfl
theorem ref_permute (d l:List Int)(hn:l.length≤1000000000):Ev (fun k=>fav.f k d l) (Gr.rpm d l):=by
 refine Ev.congr (fun k=>by rw [fav.f]) (Ev.bind (ref_perm d l hn) ?_)
 unfold Gr.rpm
 by_cases h:(Gr.perm d l).2=0
 ·simp only [ip h]
  obtain⟨p1,p2,p3,p4,p5⟩:=Gr.perm_ok h
  rw [p5]
  refine Ev.bind (ref_all _) ?_
  have:=permute_0 d l p1 p2 p3 _ rfl p4 0 (by omega) [] (by simp)
  rw [List.drop_zero,List.nil_append] at this
  exact this
 ·simp only [iN h]
  exact Ev.now _
theorem ref_expand (d to_:List Int)(hn:to_.length≤1000000000):Ev (fun k=>fat.f k d to_) (Gr.rex d to_):=by
 refine Ev.congr (fun k=>by rw [fat.f]) (Ev.bind (ref_check to_) ?_)
 unfold Gr.rex
 by_cases h:Gr.chk to_=0
 ·simp only [ip h]
  refine Ev.bind (ref_fits d to_) ?_
  by_cases h2:Gr.fts d to_=true
  ·rw [h2]
   simp only [if_true,Option.bind_some,List.nil_append]
   refine Ev.congr (fun k=>by rw [ip (by simp;omega)]) (Ev.bind (sources d to_) (Ev.now _))
  ·rw [Bool.eq_false_iff.2 h2]
   exact Ev.now _
 ·simp only [iN h]
  exact Ev.now _
theorem view_reshape (o:Int)(d s to_:List Int):Ev (fun k=>fcf.f k o d s to_) (Gr.vrs o d s to_):=by
 refine Ev.congr (fun k=>by rw [fcf.f]) (Ev.bind (view_rgt64 o d s) ?_)
 unfold Gr.vrs
 by_cases h:Gr.rgt o d s 64=true
 ·rw [h]
  simp only [if_true,shape_check,Option.bind_some]
  by_cases h1:Gr.chk to_=0
  ·simp only [ip h1]
   refine Ev.bind (shape_count to_) (Ev.bind (shape_count d) ?_)
   by_cases h2:Gr.cnt to_=Gr.cnt d
   ·simp only [ip h2]
    refine Ev.bind (view_row o d s) ?_
    by_cases h3:Gr.row (Gr.cls o d s 64)=true
    ·rw [h3]
     simp only [if_true]
     refine Ev.congr (fun k=>by rw [fbw.f,ip (by have:=(Gr.chk_ok h1).1;omega),Option.bind_some]) ?_
     refine Ev.bind (shape_steps to_) ?_
     rw [show Gr.steps to_=Gr.stp to_ by unfold Gr.steps;rw [ip h1]]
     exact Ev.now _
    ·rw [Bool.eq_false_iff.2 h3]
     exact Ev.now _
   ·simp only [iN h2];exact Ev.now _
  ·simp only [iN h1];exact Ev.now _
 ·rw [Bool.eq_false_iff.2 h];exact Ev.now _
theorem slice_3 (o:Int)(d s:List Int)(i0:Nat) (start count:Int)(hd:d.length≤100)(hi0:i0 < d.length)(hs:s.length=d.length)(s1:List Int)(hs1:s1.length=d.length)(hw:0 < start→wrap64 (o + wrap64 (start * Gr.at0 s (i0:Int)))=o + start * Gr.at0 s (i0:Int))(k:Nat) :
  fci.j3 (k + 1) (i0:Int) start count o d s o d s1=some (if 0 < start then o + start * Gr.at0 s (i0:Int)else o,d.set i0 count,if count=1 then s1.set i0 0 else s1,0):=by
 rw [fci.j3]
 by_cases h:0 < start
 ·rw [ip h,ip h,ip (by omega),ip (by omega),ip (by omega),Option.bind_some,Int.toNat_natCast,rd_at0,hw h]
  by_cases h1:count=1
  ·rw [ip h1,ip h1,ip (by omega)]
  ·rw [iN h1,iN h1]
 ·rw [iN (by omega),iN h,ip (by omega),ip (by omega),Option.bind_some,Int.toNat_natCast]
  by_cases h1:count=1
  ·rw [ip h1,ip h1,ip (by omega)]
  ·rw [iN h1,iN h1]
theorem view_slice (o:Int)(d s:List Int) (a start count step:Int):Ev (fun k=>fci.f k o d s a start count step) (Gr.vsl o d s a start count step):=by
 refine Ev.congr (fun k=>by rw [fci.f]) (Ev.bind (view_rgt64 o d s) ?_)
 unfold Gr.vsl
 by_cases h:Gr.rgt o d s 64=true
 ·rw [h]
  simp only [if_true]
  obtain⟨v1,v2,v3,v4,v5,v6⟩:=(Gr.rgt_ok h).1
  have h6:=(Gr.chk_ok v1).1
  by_cases h0:a < 0
  ·rw [ip (.inl h0)]
   simp only [ip h0]
   refine Ev.step (fun k=>?_) (Ev.now _)
   rw [fci.j0,ip rfl]
  ·simp only [iN h0]
   by_cases h1:a ≥ (d.length:Int)
   ·rw [decide_eq_true h1,ip (.inr h1)]
    refine Ev.step (fun k=>?_) (Ev.now _)
    rw [fci.j0,ip rfl]
   ·rw [decide_eq_false h1,iN (show ¬ (a < 0∨(d.length:Int)≤a) by omega)]
    obtain⟨i0,rfl⟩:=Int.eq_ofNat_of_zero_le (show 0≤a by omega)
    obtain⟨b1,b2,b3⟩:=steps_bound h i0 (by omega)
    rw [Int.toNat_natCast]
    have hrd:rd d (i0:Int)=Gr.at0 d (i0:Int):=rfl
    have stop:Ev (fun k=>fci.j1 k (i0:Int) start count step (Gr.at0 d (i0:Int)) true o d s) (0,[],[],11):=by
     refine Ev.step (fun k=>?_) (Ev.now _)
     rw [fci.j1,ip rfl]
    by_cases c1:start < 0
    ·rw [ip (.inl c1)]
     refine Ev.step (fun k=>?_) stop
     rw [fci.j0,iN (by simp),ip (by omega),ip (by omega),ip c1,hrd]
    ·by_cases c2:start ≥ Gr.at0 d (i0:Int)
     ·rw [ip (.inr (.inl c2))]
      refine Ev.step (fun k=>?_) stop
      rw [fci.j0,iN (by simp),ip (by omega),ip (by omega),iN c1,hrd,ip c2]
     ·by_cases c3:count < 1
      ·rw [ip (.inr (.inr (.inl c3)))]
       refine Ev.step (fun k=>?_) stop
       rw [fci.j0,iN (by simp),ip (by omega),ip (by omega),iN c1,hrd,iN c2,ip c3]
      ·by_cases c4:count > Gr.at0 d (i0:Int)
       ·rw [ip (.inr (.inr (.inr (.inl c4))))]
        refine Ev.step (fun k=>?_) stop
        rw [fci.j0,iN (by simp),ip (by omega),ip (by omega),iN c1,hrd,iN c2,iN c3,decide_eq_true c4]
       ·have hw:0 < start→wrap64 (o + wrap64 (start * Gr.at0 s (i0:Int)))=o + start * Gr.at0 s (i0:Int):=fun hp=>by
         obtain⟨e1,e2⟩:=b3 (by omega)
         obtain⟨m1,m2⟩:=mul_bound (a:=start) (t:=Gr.at0 s (i0:Int)) (by omega) (by omega) (.inr ⟨e1,e2⟩)
         rw [w64 (x:=start * Gr.at0 s (i0:Int)) (by omega) (by omega),w64 (by omega) (by omega)]
        refine Ev.step (f:=fun k=>fci.j1 k (i0:Int) start count step (Gr.at0 d (i0:Int)) false o d s) (fun k=>?_) ?_
        ·rw [fci.j0,iN (by simp),ip (by omega),ip (by omega),iN c1,hrd,iN c2,iN c3,decide_eq_false c4]
        ·by_cases c5:count > 1
         ·obtain⟨e1,e2⟩:=b3 (by omega)
          have stop2:Ev (fun k=>fci.j2 k (i0:Int) start count step (Gr.at0 d (i0:Int)) true o d s o d s) (0,[],[],11):=by
           refine Ev.step (fun k=>?_) (Ev.now _)
           rw [fci.j2,ip rfl]
          have hnw:wrap64 (-(Gr.at0 d (i0:Int)))=-(Gr.at0 d (i0:Int)):=w64 (by omega) (by omega)
          by_cases c6:step=0
          ·rw [ip (by omega)]
           refine Ev.step (fun k=>?_) stop2
           rw [fci.j1,iN (by simp),copied o d s (by omega) (by omega),Option.bind_some,ip c5,ip c6]
          ·by_cases c7:step ≥ Gr.at0 d (i0:Int)
           ·rw [ip (by omega)]
            refine Ev.step (fun k=>?_) stop2
            rw [fci.j1,iN (by simp),copied o d s (by omega) (by omega),Option.bind_some,ip c5,iN c6,ip c7]
           ·by_cases c8:step≤-(Gr.at0 d (i0:Int))
            ·rw [ip (by omega)]
             refine Ev.step (fun k=>?_) stop2
             rw [fci.j1,iN (by simp),copied o d s (by omega) (by omega),Option.bind_some,ip c5,iN c6,iN c7,hnw,decide_eq_true c8]
            ·obtain⟨m1,m2⟩:=mul_bound (a:=count - 1) (t:=step) (by omega) (by omega) (.inr ⟨by omega,by omega⟩)
             have hlw:wrap64 (start + wrap64 (wrap64 (count - 1) * step))=start + (count - 1) * step:=by
              rw [w64 (x:=count - 1) (by omega) (by omega),w64 (x:=(count - 1) * step) (by omega) (by omega),w64 (by omega) (by omega)]
             refine Ev.step (f:=fun k=>fci.j2 k (i0:Int) start count step (Gr.at0 d (i0:Int)) false o d s o d s) (fun k=>?_) ?_
             ·rw [fci.j1,iN (by simp),copied o d s (by omega) (by omega),Option.bind_some,ip c5,iN c6,iN c7,hnw,decide_eq_false c8]
             ·by_cases c9:start + (count - 1) * step < 0
              ·rw [ip (by omega)]
               refine Ev.step (fun k=>?_) (Ev.now _)
               rw [fci.j2,iN (by simp),hlw,ip c9]
              ·by_cases c10:start + (count - 1) * step ≥ Gr.at0 d (i0:Int)
               ·rw [ip (by omega)]
                refine Ev.step (fun k=>?_) (Ev.now _)
                rw [fci.j2,iN (by simp),hlw,iN c9,ip c10]
               ·rw [iN (by omega),iN (show ¬ count=1 by omega)]
                have e3:-4096≤Gr.at0 s (i0:Int) * step∧Gr.at0 s (i0:Int) * step≤4096:=by
                 rcases Int.lt_or_le (Gr.at0 s (i0:Int)) 0 with hneg|hpos
                 ·obtain⟨q1,q2⟩:=mul_bound (a:=-(Gr.at0 s (i0:Int))) (t:=step) (by omega) (by omega) (.inr ⟨by omega,by omega⟩)
                  rw [Int.neg_mul] at q1 q2;omega
                 ·obtain⟨q1,q2⟩:=mul_bound (a:=Gr.at0 s (i0:Int)) (t:=step) (by omega) (by omega) (.inr ⟨by omega,by omega⟩)
                  omega
                refine Ev.step (f:=fun k=>fci.j3 k (i0:Int) start count o d s o d (s.set i0 (Gr.at0 s (i0:Int) * step))) (fun k=>?_) (Ev.step (f:=fun _=>some _) (fun k=>?_) (Ev.now _))
                ·rw [fci.j2,iN (by simp),hlw,iN c9,iN c10,ip (by omega),ip (by omega),ip (by omega),Int.toNat_natCast,rd_at0,w64 (by omega) (by omega)]
                ·rw [slice_3 o d s i0 start count (by omega) (by omega) v2 _ (by simp;omega) hw k,iN (show ¬ count=1 by omega)]
         ·have hc1:count=1:=by omega
          rw [iN (by omega),ip hc1]
          refine Ev.step (f:=fun k=>fci.j3 k (i0:Int) start count o d s o d s) (fun k=>?_) (Ev.step (f:=fun _=>some _) (fun k=>?_) (Ev.now _))
          ·rw [fci.j1,iN (by simp),copied o d s (by omega) (by omega),Option.bind_some,iN c5]
          ·rw [slice_3 o d s i0 start count (by omega) (by omega) v2 s v2 hw k,ip hc1]
 ·rw [Bool.eq_false_iff.2 h];exact Ev.now _
theorem expand_l (o:Int)(d s to_:List Int)(hl:s.length=d.length)(hd:d.length≤6)(ht:to_.length≤6)(hdt:d.length≤to_.length):∀ i,i≤d.length →
  Ev (fun k=>fcc.l0 k ((to_.length:Int) - (d.length:Int)) d (d.length:Int) (i:Int) o d s o to_ (Gr.est to_.length d s i)) (o,to_,List.replicate (to_.length - d.length) 0 ++ Gr.exs d s,0):=by
 have he:=Gr.exs_length d s hl
 apply down
 ·refine Ev.step (fun k=>?_) (Ev.now _)
  rw [fcc.l0,iN (by omega)]
  unfold Gr.est
  rw [Nat.sub_self,List.take_of_length_le (by omega)]
  simp
 ·intro i hi ih
  have hel:=Gr.est_length to_.length d s hl hdt i (by omega)
  by_cases h1:1 < Gr.at0 d (i:Int)
  ·rw [Gr.est_succ _ _ _ hl i hi,Gr.exs_at d s hl i hi,ip h1] at ih
   refine Ev.step (fun k=>?_) ih
   have hw:wrap64 ((to_.length:Int) - (d.length:Int) + (i:Int))=((to_.length - d.length + i:Nat):Int):=by rw [w64 (by omega) (by omega)];omega
   rw [fcc.l0,ip (by omega),ip (by omega),ip (by omega),rd_at0,rd_at0,ip h1,ip (by omega),hw,ip (by omega),ip (by omega),Int.toNat_natCast,nx i _ hi (by omega)]
  ·rw [Gr.est_keep _ _ _ hl i hi h1] at ih
   refine Ev.step (fun k=>?_) ih
   rw [fcc.l0,ip (by omega),ip (by omega),ip (by omega),rd_at0,iN h1,nx i _ hi (by omega)]
theorem view_expand (o:Int)(d s to_:List Int):Ev (fun k=>fcc.f k o d s to_) (Gr.vex o d s to_):=by
 refine Ev.congr (fun k=>by rw [fcc.f]) (Ev.bind (view_rgt64 o d s) ?_)
 unfold Gr.vex
 by_cases h:Gr.rgt o d s 64=true
 ·rw [h]
  simp only [if_true,shape_check,Option.bind_some]
  by_cases h1:Gr.chk to_=0
  ·simp only [ip h1]
   refine Ev.bind (fits d to_) ?_
   by_cases h2:Gr.fts d to_=true
   ·rw [h2]
    simp only [if_true]
    obtain⟨f1,f2,f3,f4⟩:=(Gr.fts_iff d to_).1 h2
    have ht:=(Gr.chk_ok h1).1
    have hd:=(Gr.chk_ok f1).1
    have:=expand_l o d s to_ (Gr.rgt_ok h).1.2.1 hd ht f3 0 (by omega)
    have e0:Gr.est to_.length d s 0=List.replicate to_.length 0:=by
     unfold Gr.est
     rw [List.take_zero,List.nil_append,List.replicate_append_replicate]
     congr 1;omega
    rw [e0] at this
    refine Ev.congr (fun k=>?_) this
    rw [fbw.f,ip (by omega),Option.bind_some,ip (by omega),ip (by omega),Int.toNat_natCast,w64 (by omega) (by omega)];rfl
   ·rw [Bool.eq_false_iff.2 h2];exact Ev.now _
  ·simp only [iN h1];exact Ev.now _
 ·rw [Bool.eq_false_iff.2 h];exact Ev.now _
theorem move_view (o:Int)(d s:List Int) (op n a b c p q r t:Int)(kp:Bool)(l:List Int)(hl:l.length≤1000)(h33:33≤op)(h37:op≤37):Ev (fun k=>fbk.f k op n a b c p q r t kp l o d s) (Gr.sen o d s op n a b c l):=by
 unfold Gr.sen
 by_cases h1:op=33
 ·rw [ip h1]
  exact Ev.congr (fun k=>by rw [fbk.f,ip h1]) (Ev.bind (view_reshape o d s l) (Ev.now _))
 ·by_cases h2:op=34
  ·rw [iN h1,ip h2]
   exact Ev.congr (fun k=>by rw [fbk.f,iN h1,ip h2]) (Ev.bind (view_permute o d s l (by omega)) (Ev.now _))
  ·by_cases h3:op=35
   ·rw [iN h1,iN h2,ip h3]
    exact Ev.congr (fun k=>by rw [fbk.f,iN h1,iN h2,ip h3]) (Ev.bind (view_slice o d s n a b c) (Ev.now _))
   ·by_cases h4:op=36
    ·rw [iN h1,iN h2,iN h3,ip h4]
     exact Ev.congr (fun k=>by rw [fbk.f,iN h1,iN h2,iN h3,ip h4]) (Ev.bind (view_expand o d s l) (Ev.now _))
    ·rw [iN h1,iN h2,iN h3,iN h4]
     exact Ev.congr (fun k=>by rw [fbk.f,iN h1,iN h2,iN h3,iN h4,ip (by omega)]) (Ev.bind (view_flip o d s n) (Ev.now _))
theorem joined_w (x y:List Int) (n:Int)(hx:Gr.chk x=0)(hy:Gr.chk y=0)(h0:0≤n)(h1:n < (x.length:Int))(hl:x.length=y.length):wrap64 (rd x n + rd y n)=Gr.at0 x n + Gr.at0 y n:=by
 obtain⟨m,rfl⟩:=Int.eq_ofNat_of_zero_le h0
 have e1:=(Gr.chk_ok hx).2.1 x[m] (List.getElem_mem (by omega))
 have e2:=(Gr.chk_ok hy).2.1 y[m] (List.getElem_mem (by omega))
 have e3:=Gr.ok_le hx x[m] (List.getElem_mem (by omega))
 have e4:=Gr.ok_le hy y[m] (List.getElem_mem (by omega))
 rw [← at0_rd,← at0_rd,Gr.at0_g29 x m (by omega),Gr.at0_g29 y m (by omega),w64 (by omega) (by omega)]
theorem joined_l (x y:List Int) (n:Int)(hx:Gr.chk x=0)(hy:Gr.chk y=0)(h0:0≤n)(h1:n < (x.length:Int))(hl:x.length=y.length):∀ i,i≤x.length →
  Ev (fun k=>fbl.l0 k x y n x (x.length:Int) (i:Int)) (if Gr.jok n x y i=true then Gr.withd x n (Gr.at0 x n + Gr.at0 y n)else([],8)):=by
 have h6:=(Gr.chk_ok hx).1
 apply down
 ·rw [ip (Gr.jok_end n x y)]
  refine Ev.step (fun k=>by rw [fbl.l0,iN (by omega),ip h0,ip h1,ip (by omega),joined_w x y n hx hy h0 h1 hl]) (Ev.bind (withp x n _) ?_)
  exact Ev.now _
 ·intro i hi ih
  have e:=Gr.jok_step n x y i hi
  by_cases g0:(i:Int)=n
  ·rw [decide_eq_true g0,Bool.true_or,Bool.true_and] at e
   rw [e]
   refine Ev.step (fun k=>?_) ih
   rw [fbl.l0,ip (by omega),ip (by omega),ip (by omega),ip g0,nx i _ hi (by omega)]
  ·rw [decide_eq_false g0,Bool.false_or] at e
   by_cases g1:Gr.at0 x (i:Int)=Gr.at0 y (i:Int)
   ·rw [decide_eq_true g1,Bool.true_and] at e
    rw [e]
    refine Ev.step (fun k=>?_) ih
    rw [fbl.l0,ip (by omega),ip (by omega),ip (by omega),iN g0,ip (by omega),← at0_rd,← at0_rd,ip g1,nx i _ hi (by omega)]
   ·rw [decide_eq_false g1,Bool.false_and] at e
    rw [e,iN (by simp)]
    refine Ev.step (fun k=>?_) (Ev.now _)
    rw [fbl.l0,ip (by omega),ip (by omega),ip (by omega),iN g0,ip (by omega),← at0_rd,← at0_rd,iN g1]
theorem mjoined (x y:List Int) (n:Int)(hx:Gr.chk x=0)(hy:Gr.chk y=0):Ev (fun k=>fbl.f k x y n) (Gr.joind x y n):=by
 unfold Gr.joind
 by_cases h0:n < 0
 ·rw [ip (.inl h0)]
  refine Ev.congr (fun k=>by rw [fbl.f,ip h0]) (Ev.step (fun k=>?_) (Ev.now _))
  rw [fbl.j0,ip rfl]
 ·by_cases h1:(x.length:Int)≤n
  ·rw [ip (.inr h1)]
   refine Ev.congr (fun k=>by rw [fbl.f,iN h0]) (Ev.step (fun k=>?_) (Ev.now _))
   rw [fbl.j0,ip (decide_eq_true h1)]
  ·rw [iN (by omega)]
   by_cases h2:x.length=y.length
   ·rw [ip h2]
    refine Ev.congr (fun k=>by rw [fbl.f,iN h0]) (Ev.step (fun k=>?_) (joined_l x y n hx hy (by omega) (by omega) h2 0 (by omega)))
    rw [fbl.j0,iN (by simp;omega),ip (by omega)];rfl
   ·rw [iN h2]
    refine Ev.congr (fun k=>by rw [fbl.f,iN h0]) (Ev.step (fun k=>?_) (Ev.now _))
    rw [fbl.j0,iN (by simp;omega),iN (by omega)]
theorem rd_L0 (l:List (List Int)):rd_L1 l 0=l.getD 0 []:=rfl
theorem rd_L1' (l:List (List Int)):rd_L1 l 1=l.getD 1 []:=rfl
theorem getD_mem (l:List (List Int))(i:Nat)(h:i < l.length):l.getD i [] ∈ l:=by
 rw [List.getD_eq_getElem?_getD,List.getElem?_eq_getElem h];exact List.getElem_mem h
theorem mdims_l (op n a b c p q r t:Int)(kp:Bool)(l:List Int)(dims:List (List Int))(hn:dims.length≤1000)(hl:l.length≤1000)(h33:33≤op)(h40:op≤40)(hd:(dims.length:Int)=(if op=40 then 2 else 1)):∀ i,i≤dims.length→(∀ x ∈ dims.take i,Gr.chk x=0) →
  Ev (fun k=>fbf.l0 k op dims dims (dims.length:Int) (i:Int) n a b c p q r t kp l) (if Gr.fchk (dims.drop i)=0 then
  (if op=38 then Gr.takd (dims.getD 0 []) n l else if op=39 then Gr.putd (dims.getD 0 []) n a l else if op=40 then Gr.joind (dims.getD 0 []) (dims.getD 1 []) n else((Gr.ses (dims.getD 0 []) op n a b c l).1,(Gr.ses (dims.getD 0 []) op n a b c l).2.2))
  else([],Gr.fchk (dims.drop i))):=by
 apply down
 ·intro hc
  rw [List.take_length] at hc
  rw [List.drop_length,ip (show Gr.fchk []=0 from rfl)]
  have hp:0 < dims.length:=by split at hd <;> omega
  have hc0:=hc _ (getD_mem dims 0 hp)
  by_cases h1:op=38
  ·rw [ip h1]
   refine Ev.step (fun k=>by rw [fbf.l0,iN (by omega),ip h1,ip (by omega),rd_L0]) (Ev.bind (mtaken _ n a b c p q r t kp l (by omega)) (Ev.now _))
  ·rw [iN h1]
   by_cases h2:op=39
   ·rw [ip h2]
    refine Ev.step (fun k=>by rw [fbf.l0,iN (by omega),iN h1,ip h2,ip (by omega),rd_L0]) (Ev.bind (mput _ n a b c p q r t kp l (by omega)) (Ev.now _))
   ·rw [iN h2]
    by_cases h3:op=40
    ·rw [ip h3]
     rw [ip h3] at hd
     have hc1:=hc _ (getD_mem dims 1 (by omega))
     refine Ev.step (fun k=>by rw [fbf.l0,iN (by omega),iN h1,iN h2,ip h3,ip (by omega),ip (by omega),rd_L0,rd_L1']) (Ev.bind (mjoined _ _ n hc0 hc1) (Ev.now _))
    ·rw [iN h3]
     have h6:=(Gr.chk_ok hc0).1
     have hw:=view_whole (dims.getD 0 []) (by omega)
     rw [ip hc0] at hw
     obtain⟨s1,s2⟩:=Gr.sen_whole hc0 op n a b c l
     refine Ev.step (fun k=>by rw [fbf.l0,iN (by omega),iN h1,iN h2,iN h3,ip (by omega),rd_L0]) (Ev.bind hw (Ev.bind (move_view 0 _ _ op n a b c p q r t kp l hl h33 (by omega)) ?_))
     rw [s1,s2]
     exact Ev.now _
 ·intro i hi ih hc
  rw [List.drop_eq_getElem_cons hi]
  unfold Gr.fchk
  by_cases h:Gr.chk dims[i]=0
  ·rw [ip h]
   refine Ev.step (fun k=>?_) (ih (fun x hx=>?_))
   ·rw [fbf.l0,ip (by omega),ip (by omega),ip (by omega),rdl dims i hi,shape_check,Option.bind_some,ip h,nx i _ hi (by omega)]
   ·rw [List.take_succ_eq_append_getElem hi,List.mem_append,List.mem_singleton] at hx
    rcases hx with hx|rfl
    ·exact hc x hx
    ·exact h
  ·rw [iN h,iN h]
   refine Ev.step (fun k=>?_) (Ev.now _)
   rw [fbf.l0,ip (by omega),ip (by omega),ip (by omega),rdl dims i hi,shape_check,Option.bind_some,iN h]
theorem mdims (op n a b c p q r t:Int)(kp:Bool)(l:List Int)(dims:List (List Int))(hn:dims.length≤1000)(hl:l.length≤1000):Ev (fun k=>fbf.f k op n a b c p q r t kp l dims) (Gr.mvd op n a b c l dims):=by
 unfold Gr.mvd
 have j1:Ev (fun k=>fbf.j0 k op dims true n a b c p q r t kp l) (([]:List Int),(1:Int)):=Ev.step (fun k=>by rw [fbf.j0,ip rfl]) (Ev.now _)
 by_cases h1:33≤op∧op≤40
 ·rw [ip h1]
  by_cases h2:(dims.length:Int)=(if op=40 then 2 else 1)
  ·rw [ip h2]
   have hm:=mdims_l op n a b c p q r t kp l dims hn hl h1.1 h1.2 h2 0 (by omega) (by simp)
   rw [List.drop_zero] at hm
   have j0:Ev (fun k=>fbf.j0 k op dims false n a b c p q r t kp l) _:=Ev.step (fun k=>by rw [fbf.j0,iN (by simp)];rfl) hm
   by_cases h3:op=40
   ·rw [ip h3] at h2
    refine Ev.congr (fun k=>?_) j0
    rw [fbf.f,fbh.f,ip (by omega),Option.bind_some,ip (by simp;omega),iN (by omega),ip h3,h2];rfl
   ·rw [iN h3] at h2
    refine Ev.congr (fun k=>?_) j0
    rw [fbf.f,fbh.f,ip (by omega),Option.bind_some,ip (by simp;omega),ip (by omega),iN h3]
  ·rw [iN h2]
   by_cases h3:op=40
   ·rw [ip h3] at h2
    have e:((dims.length:Int) != 2)=true:=bne_iff_ne.2 h2
    refine Ev.congr (fun k=>?_) j1
    rw [fbf.f,fbh.f,ip (by omega),Option.bind_some,ip (by simp;omega),ip h3,ip h3,e];simp
   ·rw [iN h3] at h2
    refine Ev.congr (fun k=>?_) j1
    rw [fbf.f,fbh.f,ip (by omega),Option.bind_some,ip (by simp;omega),iN (by omega),iN h3]
 ·rw [iN h1]
  refine Ev.congr (fun k=>?_) (Ev.now _)
  rw [fbf.f,fbh.f]
  by_cases g:op ≥ 33
  ·rw [ip g,Option.bind_some,iN (by simp;omega)]
  ·rw [iN g,Option.bind_some,iN (by simp)]
theorem ref_ses (d:List Int)(hok:Gr.chk d=0) (op n a b c p q r t:Int)(kp:Bool)(l:List Int)(hl:l.length≤1000)(h33:33≤op)(h37:op≤37):Ev (fun k=>fax.f k op n a b c p q r t kp l d) (Gr.ses d op n a b c l):=by
 unfold Gr.ses
 by_cases h1:op=33
 ·rw [ip h1]
  exact Ev.congr (fun k=>by rw [fax.f,ip h1]) (Ev.bind (ref_reshape d l) (Ev.now _))
 ·by_cases h2:op=34
  ·rw [iN h1,ip h2]
   exact Ev.congr (fun k=>by rw [fax.f,iN h1,ip h2]) (Ev.bind (ref_permute d l (by omega)) (Ev.now _))
  ·by_cases h3:op=35
   ·rw [iN h1,iN h2,ip h3]
    exact Ev.congr (fun k=>by rw [fax.f,iN h1,iN h2,ip h3]) (Ev.bind (ref_slice d hok n a b c) (Ev.now _))
   ·by_cases h4:op=36
    ·rw [iN h1,iN h2,iN h3,ip h4]
     exact Ev.congr (fun k=>by rw [fax.f,iN h1,iN h2,iN h3,ip h4]) (Ev.bind (ref_expand d l (by omega)) (Ev.now _))
    ·rw [iN h1,iN h2,iN h3,iN h4]
     exact Ev.congr (fun k=>by rw [fax.f,iN h1,iN h2,iN h3,iN h4,ip (by omega)]) (Ev.bind (ref_flip d hok n) (Ev.now _))
theorem rput_1 (d out:List Int) (n a a2 a3 a4 a5 a6 a7:Int)(a8:Bool)(l:List Int)(hd:Gr.chk d=0)(h0:0≤n)(h1:n < (d.length:Int))(hl:(l.length:Int)=Gr.at0 d n):∀ q,q≤(Gr.alls d).length→∀ ac:List Int,ac.length≤q →
  Ev (fun k=>fbd.l1 k d (Gr.alls d) ((Gr.alls d).length:Int) (q:Int) n a a2 a3 a4 a5 a6 a7 a8 l out ac) (out,[],ac ++ ((Gr.alls d).drop q).map (fun p=>Gr.plr out (Gr.mvp n l p)),0):=by
 have hlen:=Gr.alls_length d
 have h64:=(Gr.cnt_ok hd).2.2
 have h6:=(Gr.chk_ok hd).1
 obtain⟨i0,rfl⟩:=Int.eq_ofNat_of_zero_le h0
 apply down
 ·intro ac _
  rw [List.drop_length]
  simp only [List.map_nil,List.append_nil]
  refine Ev.step (fun k=>?_) (Ev.now _)
  rw [fbd.l1,iN (by omega)]
 ·intro q hq ih ac hac
  have hp:=(Gr.mem_alls hd).1 (List.getElem_mem hq)
  have hpl:=Gr.inb_length hp
  have hpi:=Gr.inb_a29 hp i0 (by omega)
  have hr:=ih (ac ++ [Gr.plr out (Gr.mvp (i0:Int) l (Gr.alls d)[q])]) (by simp;omega)
  rw [List.append_assoc] at hr
  rw [List.drop_eq_getElem_cons hq,List.map_cons]
  refine Ev.step (f:=fun k=>(fan.f k out (Gr.mvp (i0:Int) l (Gr.alls d)[q])).bind fun t=>(if ac.length < 17592186044416 then(fbd.l1 k d (Gr.alls d) ((Gr.alls d).length:Int) ((q + 1:Nat):Int) (i0:Int) a a2 a3 a4 a5 a6 a7 a8 l out (ac ++ [t]))else(none))) (fun k=>?_) (Ev.bind (ref_place20 out _) ?_)
  ·rw [fbd.l1,ip (by omega),Option.bind_some,ip (by omega),ip (by omega),rdl _ q hq,ip (by simp;omega),Option.bind_some,List.nil_append,ip (by omega),ip (by omega),← at0_rd,ip hpi.1,ip (by omega),nx q _ hq (by omega),← at0_rd]
   rfl
  ·exact Ev.congr (fun k=>by rw [ip (by omega)]) hr
theorem rput_0 (d out:List Int) (n a a2 a3 a4 a5 a6 a7:Int)(a8:Bool)(l:List Int)(hn:l.length≤1000000000)(R:List Int×List Int×List Int×Int)(hR:Ev (fun k=>(fam.f k d).bind fun L=>fbd.l1 k d L (L.length:Int) 0 n a a2 a3 a4 a5 a6 a7 a8 l out []) R):∀ i,i≤l.length →
  Ev (fun k=>fbd.l0 k d out (l.length:Int) (i:Int) n a a2 a3 a4 a5 a6 a7 a8 l) (if Gr.inr (l.drop i) a=true then R else([],[],[],11)):=by
 apply down
 ·rw [List.drop_length,ip (show Gr.inr [] a=true from rfl)]
  refine Ev.step (fun k=>?_) hR
  rw [fbd.l0,iN (by omega)]
 ·intro i hi ih
  have e:=Gr.inr_cons (rd l (i:Int)) (l.drop (i + 1)) a
  rw [dropc l i hi]
  by_cases h0:rd l (i:Int) < 0
  ·rw [iN (fun c=>absurd (e.1 c).1.1 (by omega))]
   refine Ev.step (fun k=>?_) (Ev.now _)
   rw [fbd.l0,ip (by omega),ip (by omega),ip (by omega),ip h0]
  ·by_cases h1:a≤rd l (i:Int)
   ·rw [iN (fun c=>absurd (e.1 c).1.2 (by omega))]
    refine Ev.step (fun k=>?_) (Ev.now _)
    rw [fbd.l0,ip (by omega),ip (by omega),ip (by omega),iN h0,ip h1]
   ·rw [show Gr.inr (rd l (i:Int) :: l.drop (i + 1)) a=Gr.inr (l.drop (i + 1)) a by rw [Bool.eq_iff_iff,e];exact⟨fun h=>h.2,fun h=>⟨⟨by omega,by omega⟩,h⟩⟩]
    refine Ev.step (fun k=>?_) ih
    rw [fbd.l0,ip (by omega),ip (by omega),ip (by omega),iN h0,iN h1,nx i _ hi hn]
theorem rput (d:List Int) (n a a2 a3 a4 a5 a6 a7:Int)(a8:Bool)(l:List Int)(hd:Gr.chk d=0)(hn:l.length≤1000000000):Ev (fun k=>fbd.f k d n a a2 a3 a4 a5 a6 a7 a8 l) (Gr.putv d n a l):=by
 refine Ev.congr (fun k=>by rw [fbd.f]) (Ev.bind (ref_with d n a) ?_)
 unfold Gr.putv Gr.putd
 by_cases h:(Gr.withd d n a).2=0
 ·obtain⟨w1,w2,w3,w4,w5⟩:=Gr.withd_o29 h
  rw [ip h]
  refine Ev.congr (fun k=>by rw [ip h,ip w2,ip w3]) ?_
  by_cases h2:(l.length:Int)=Gr.at0 d n
  ·rw [ip h2]
   refine Ev.congr (fun k=>by rw [← at0_rd,ip h2]) ?_
   have h1:=rput_1 d (Gr.withd d n a).1 n a a2 a3 a4 a5 a6 a7 a8 l hd w2 w3 h2 0 (by omega) [] (by simp)
   rw [List.drop_zero,List.nil_append] at h1
   have h0:=rput_0 d (Gr.withd d n a).1 n a a2 a3 a4 a5 a6 a7 a8 l hn _ (Ev.bind (ref_all d) h1) 0 (by omega)
   rw [List.drop_zero] at h0
   by_cases h3:Gr.inr l a=true
   ·rw [ip h3] at h0
    rw [ip h3,ip rfl]
    exact h0
   ·rw [iN h3] at h0
    rw [iN h3,iN (by decide)]
    exact h0
  ·rw [iN h2,iN (by decide)]
   exact Ev.congr (fun k=>by rw [← at0_rd,iN h2]) (Ev.now _)
 ·rw [iN h,iN h]
  exact Ev.congr (fun k=>by rw [iN h]) (Ev.now _)
theorem rjoin_1 (x y out:List Int) (n:Int)(hx:Gr.chk x=0)(ho:Gr.chk out=0)(h0:0≤n)(h1:n < (x.length:Int))(hl:out.length=x.length):∀ q,q≤(Gr.alls out).length→∀ wc ac:List Int,wc.length≤q→ac.length≤q →
  Ev (fun k=>fbc.l1 k x y n (Gr.alls out) ((Gr.alls out).length:Int) (q:Int) out wc ac) (out,wc ++ ((Gr.alls out).drop q).map (Gr.jnw x n),ac ++ ((Gr.alls out).drop q).map (Gr.jnf x y n),0):=by
 have hlen:=Gr.alls_length out
 have h64:=(Gr.cnt_ok ho).2.2
 have h6:=(Gr.chk_ok hx).1
 obtain⟨i0,rfl⟩:=Int.eq_ofNat_of_zero_le h0
 have x64:=Gr.ok_le hx x[i0] (List.getElem_mem (by omega))
 have x1:=(Gr.chk_ok hx).2.1 x[i0] (List.getElem_mem (by omega))
 have o64:=Gr.ok_le ho out[i0] (List.getElem_mem (by omega))
 apply down
 ·intro wc ac _ _
  rw [List.drop_length]
  simp only [List.map_nil,List.append_nil]
  refine Ev.step (fun k=>?_) (Ev.now _)
  rw [fbc.l1,iN (by omega)]
 ·intro q hq ih wc ac hwc hac
  have hp:=(Gr.mem_alls ho).1 (List.getElem_mem hq)
  have hpl:=Gr.inb_length hp
  have hpi:=Gr.inb_a29 hp i0 (by omega)
  rw [Gr.at0_g29 out i0 (by omega)] at hpi
  have hr:=ih (wc ++ [Gr.jnw x (i0:Int) (Gr.alls out)[q]]) (ac ++ [Gr.jnf x y (i0:Int) (Gr.alls out)[q]]) (by simp;omega) (by simp;omega)
  rw [List.append_assoc,List.append_assoc] at hr
  rw [List.drop_eq_getElem_cons hq,List.map_cons,List.map_cons]
  by_cases hc:Gr.at0 (Gr.alls out)[q] (i0:Int) < Gr.at0 x (i0:Int)
  ·have e1:Gr.jnw x (i0:Int) (Gr.alls out)[q]=0:=by unfold Gr.jnw;rw [ip hc]
   have e2:Gr.jnf x y (i0:Int) (Gr.alls out)[q]=Gr.plr x (Gr.alls out)[q]:=by unfold Gr.jnf;rw [ip hc]
   rw [e1,e2] at hr ⊢
   refine Ev.step (f:=fun k=>(fan.f k x (Gr.alls out)[q]).bind fun t=>(if ac.length < 17592186044416 then(fbc.l1 k x y (i0:Int) (Gr.alls out) ((Gr.alls out).length:Int) ((q + 1:Nat):Int) out (wc ++ [0]) (ac ++ [t]))else(none))) (fun k=>?_) (Ev.bind (ref_place20 x _) ?_)
   ·rw [fbc.l1,ip (by omega),Option.bind_some,ip (by omega),ip (by omega),rdl _ q hq,ip (by simp;omega),Option.bind_some,List.nil_append,ip (by omega),ip (by omega),ip (by omega),← at0_rd,← at0_rd,ip hc,ip (by omega),nx q _ hq (by omega)]
   ·exact Ev.congr (fun k=>by rw [ip (by omega)]) hr
  ·have e1:Gr.jnw x (i0:Int) (Gr.alls out)[q]=1:=by unfold Gr.jnw;rw [iN hc]
   have e2:Gr.jnf x y (i0:Int) (Gr.alls out)[q]=Gr.plr y ((Gr.alls out)[q].set i0 (Gr.at0 (Gr.alls out)[q] (i0:Int) - Gr.at0 x (i0:Int))):=by unfold Gr.jnf;rw [iN hc,Int.toNat_natCast]
   rw [e1,e2] at hr ⊢
   have ew:wrap64 (Gr.at0 (Gr.alls out)[q] (i0:Int) - Gr.at0 x (i0:Int))=Gr.at0 (Gr.alls out)[q] (i0:Int) - Gr.at0 x (i0:Int):=by
    rw [Gr.at0_g29 x i0 (by omega)] at hc ⊢
    exact w64 (by omega) (by omega)
   refine Ev.step (f:=fun k=>(fan.f k y ((Gr.alls out)[q].set i0 (Gr.at0 (Gr.alls out)[q] (i0:Int) - Gr.at0 x (i0:Int)))).bind fun t=>(if ac.length < 17592186044416 then(fbc.l1 k x y (i0:Int) (Gr.alls out) ((Gr.alls out).length:Int) ((q + 1:Nat):Int) out (wc ++ [1]) (ac ++ [t]))else(none))) (fun k=>?_) (Ev.bind (ref_place20 y _) ?_)
   ·rw [fbc.l1,ip (by omega),Option.bind_some,ip (by omega),ip (by omega),rdl _ q hq,ip (by simp;omega),Option.bind_some,List.nil_append,ip (by omega),ip (by omega),ip (by omega),← at0_rd,← at0_rd,iN hc,ip (by omega),nx q _ hq (by omega),ew,Int.toNat_natCast]
   ·exact Ev.congr (fun k=>by rw [ip (by omega)]) hr
theorem rjoin_0 (x y:List Int) (n:Int)(hx:Gr.chk x=0)(hy:Gr.chk y=0)(h0:0≤n)(h1:n < (x.length:Int))(hl:x.length=y.length):∀ i,i≤x.length →
  Ev (fun k=>fbc.l0 k x y n (x.length:Int) (i:Int)) (if Gr.jok n x y i=true then(if(Gr.withd x n (Gr.at0 x n + Gr.at0 y n)).2=0 then((Gr.withd x n (Gr.at0 x n + Gr.at0 y n)).1,(Gr.alls (Gr.withd x n (Gr.at0 x n + Gr.at0 y n)).1).map (Gr.jnw x n),(Gr.alls (Gr.withd x n (Gr.at0 x n + Gr.at0 y n)).1).map (Gr.jnf x y n),0)else([],[],[],(Gr.withd x n (Gr.at0 x n + Gr.at0 y n)).2))else([],[],[],8)):=by
 have h6:=(Gr.chk_ok hx).1
 apply down
 ·rw [ip (Gr.jok_end n x y)]
  refine Ev.step (fun k=>by rw [fbc.l0,iN (by omega),ip h0,ip h1,ip (by omega),joined_w x y n hx hy h0 h1 hl]) (Ev.bind (ref_with x n _) ?_)
  by_cases h:(Gr.withd x n (Gr.at0 x n + Gr.at0 y n)).2=0
  ·obtain⟨w1,w2,w3,w4,w5⟩:=Gr.withd_o29 h
   rw [ip h]
   refine Ev.congr (fun k=>by rw [ip h]) (Ev.bind (ref_all _) ?_)
   have:=rjoin_1 x y (Gr.withd x n (Gr.at0 x n + Gr.at0 y n)).1 n hx (by rw [w5];exact w4) h0 h1 (by rw [w5];simp) 0 (by omega) [] [] (by simp) (by simp)
   rw [List.drop_zero,List.nil_append,List.nil_append] at this
   exact this
  ·rw [iN h]
   exact Ev.congr (fun k=>by rw [iN h]) (Ev.now _)
 ·intro i hi ih
  have e:=Gr.jok_step n x y i hi
  by_cases g0:(i:Int)=n
  ·rw [decide_eq_true g0,Bool.true_or,Bool.true_and] at e
   rw [e]
   refine Ev.step (fun k=>?_) ih
   rw [fbc.l0,ip (by omega),ip g0,nx i _ hi (by omega)]
  ·rw [decide_eq_false g0,Bool.false_or] at e
   by_cases g1:Gr.at0 x (i:Int)=Gr.at0 y (i:Int)
   ·rw [decide_eq_true g1,Bool.true_and] at e
    rw [e]
    refine Ev.step (fun k=>?_) ih
    rw [fbc.l0,ip (by omega),iN g0,ip (by omega),ip (by omega),ip (by omega),← at0_rd,← at0_rd,ip g1,nx i _ hi (by omega)]
   ·rw [decide_eq_false g1,Bool.false_and] at e
    rw [e,iN (by simp)]
    refine Ev.step (fun k=>?_) (Ev.now _)
    rw [fbc.l0,ip (by omega),iN g0,ip (by omega),ip (by omega),ip (by omega),← at0_rd,← at0_rd,iN g1]
theorem rjoin (x y:List Int) (n:Int)(hx:Gr.chk x=0)(hy:Gr.chk y=0):Ev (fun k=>fbc.f k x y n) (Gr.joinv x y n):=by
 unfold Gr.joinv
 by_cases h0:n < 0
 ·have e:Gr.joind x y n=([],10):=by unfold Gr.joind;rw [ip (.inl h0)]
  rw [e,iN (by decide)]
  refine Ev.congr (fun k=>by rw [fbc.f,ip h0]) (Ev.step (fun k=>?_) (Ev.now _))
  rw [fbc.j0,ip rfl]
 ·by_cases h1:(x.length:Int)≤n
  ·have e:Gr.joind x y n=([],10):=by unfold Gr.joind;rw [ip (.inr h1)]
   rw [e,iN (by decide)]
   refine Ev.congr (fun k=>by rw [fbc.f,iN h0]) (Ev.step (fun k=>?_) (Ev.now _))
   rw [fbc.j0,ip (decide_eq_true h1)]
  ·by_cases h2:x.length=y.length
   ·have hj:=rjoin_0 x y n hx hy (by omega) (by omega) h2 0 (by omega)
    refine Ev.congr (fun k=>by rw [fbc.f,iN h0]) (Ev.step (f:=fun k=>fbc.l0 k x y n (x.length:Int) ((0:Nat):Int)) (fun k=>?_) ?_)
    ·rw [fbc.j0,iN (by simp;omega),ip (by omega)];rfl
    ·by_cases h3:Gr.jok n x y 0=true
     ·have e:Gr.joind x y n=Gr.withd x n (Gr.at0 x n + Gr.at0 y n):=by unfold Gr.joind;rw [iN (by omega),ip h2,ip h3]
      rw [ip h3] at hj
      rw [e]
      exact hj
     ·have e:Gr.joind x y n=([],8):=by unfold Gr.joind;rw [iN (by omega),ip h2,iN h3]
      rw [iN h3] at hj
      rw [e,iN (by decide)]
      exact hj
   ·have e:Gr.joind x y n=([],8):=by unfold Gr.joind;rw [iN (by omega),iN h2]
    rw [e,iN (by decide)]
    refine Ev.congr (fun k=>by rw [fbc.f,iN h0]) (Ev.step (fun k=>?_) (Ev.now _))
    rw [fbc.j0,iN (by simp;omega),iN (by omega)]
theorem rsingle_l (d:List Int) (n a b c p q r t:Int)(kp:Bool)(l:List Int)(hn:l.length≤1000000000)(h0:0≤n)(h1:n < (d.length:Int))(R:List Int×List Int×Int)(hR:Gr.inr l (Gr.at0 d n)=true→Ev (fun k=>faz.f k d n l) R):∀ i,i≤l.length→Gr.inr (l.take i) (Gr.at0 d n)=true →
  Ev (fun k=>fbe.l0 k d (l.length:Int) (i:Int) n a b c p q r t kp l) (if Gr.inr (l.drop i) (Gr.at0 d n)=true then R else([],[],11)):=by
 apply down
 ·intro ht
  rw [List.take_length] at ht
  rw [List.drop_length,ip (show Gr.inr [] (Gr.at0 d n)=true from rfl)]
  refine Ev.step (fun k=>by rw [fbe.l0,iN (by omega)]) (Ev.bind (hR ht) (Ev.now _))
 ·intro i hi ih ht
  have e:=Gr.inr_cons (rd l (i:Int)) (l.drop (i + 1)) (Gr.at0 d n)
  rw [dropc l i hi]
  by_cases g0:rd l (i:Int) < 0
  ·rw [iN (fun c=>absurd (e.1 c).1.1 (by omega))]
   refine Ev.step (fun k=>?_) (Ev.now _)
   rw [fbe.l0,ip (by omega),ip (by omega),ip (by omega),ip g0]
  ·by_cases g1:Gr.at0 d n≤rd l (i:Int)
   ·rw [iN (fun c=>absurd (e.1 c).1.2 (by omega))]
    refine Ev.step (fun k=>?_) (Ev.now _)
    rw [fbe.l0,ip (by omega),ip (by omega),ip (by omega),iN g0,ip h0,ip h1,← at0_rd d,ip g1]
   ·rw [show Gr.inr (rd l (i:Int) :: l.drop (i + 1)) (Gr.at0 d n)=Gr.inr (l.drop (i + 1)) (Gr.at0 d n) by rw [Bool.eq_iff_iff,e];exact⟨fun h=>h.2,fun h=>⟨⟨by omega,by omega⟩,h⟩⟩]
    refine Ev.step (fun k=>?_) (ih ?_)
    ·rw [fbe.l0,ip (by omega),ip (by omega),ip (by omega),iN g0,ip h0,ip h1,← at0_rd d,iN g1,nx i _ hi hn]
    ·rw [List.take_succ_eq_append_getElem hi]
     unfold Gr.inr at ht ⊢
     rw [List.all_append,ht,← rdg l i hi]
     simp;omega
theorem rsingle (d:List Int)(hok:Gr.chk d=0) (op n a b c p q r t:Int)(kp:Bool)(l:List Int)(hl:l.length≤1000)(h33:33≤op)(h38:op≤38):Ev (fun k=>fbe.f k op n a b c p q r t kp l d) (Gr.sgl d op n a b c l):=by
 unfold Gr.sgl
 by_cases h:op=38
 ·rw [ip h]
  by_cases h0:n < 0
  ·rw [ip (.inl h0)]
   refine Ev.congr (fun k=>by rw [fbe.f,ip h,ip h0]) (Ev.step (fun k=>?_) (Ev.now _))
   rw [fbe.j0,ip rfl]
  ·by_cases h1:(d.length:Int)≤n
   ·rw [ip (.inr h1)]
    refine Ev.congr (fun k=>by rw [fbe.f,ip h,iN h0]) (Ev.step (fun k=>?_) (Ev.now _))
    rw [fbe.j0,ip (decide_eq_true h1)]
   ·rw [iN (by omega)]
    refine Ev.congr (fun k=>by rw [fbe.f,ip h,iN h0]) (Ev.step (fun k=>by rw [fbe.j0,iN (by simp;omega)]) ?_)
    have hm:=rsingle_l d n a b c p q r t kp l (by omega) (by omega) (by omega) (Gr.rtk d n l) (fun hi=>by
     obtain⟨i0,rfl⟩:=Int.eq_ofNat_of_zero_le (show 0≤n by omega)
     refine ref_take d hok i0 (by omega) l (fun m hm=>?_)
     unfold Gr.inr at hi
     rw [List.all_eq_true] at hi
     simpa using hi m hm) 0 (by omega) rfl
    rw [List.drop_zero] at hm
    exact hm
 ·rw [iN h]
  exact Ev.congr (fun k=>by rw [fbe.f,iN h]) (Ev.bind (ref_ses d hok op n a b c p q r t kp l hl h33 (by omega)) (Ev.now _))
theorem rof_1 (out from_:List Int)(m:Nat)(hm:m≤1000):∀ i,i≤m→Ev (fun k=>fbb.l1 k (m:Int) (i:Int) out (List.replicate i 0) from_) (out,List.replicate m 0,from_,0):=by
 apply down
 ·refine Ev.step (fun k=>?_) (Ev.now _)
  rw [fbb.l1,iN (by omega)]
 ·intro i hi ih
  rw [List.replicate_succ'] at ih
  refine Ev.step (fun k=>?_) ih
  rw [fbb.l1,ip (by omega),ip (by simp;omega),nx i _ hi (by omega)]
theorem sgl_len (d:List Int)(hok:Gr.chk d=0) (op n a b c:Int)(l:List Int)(h:(Gr.sgl d op n a b c l).2.2=0):(Gr.sgl d op n a b c l).2.1.length≤1000:=by
 unfold Gr.sgl at h ⊢
 by_cases h1:op=38
 ·rw [ip h1] at h ⊢
  by_cases h2:n < 0∨(d.length:Int)≤n
  ·rw [ip h2];simp
  ·rw [iN h2] at h ⊢
   by_cases h3:Gr.inr l (Gr.at0 d n)=true
   ·rw [ip h3] at h ⊢
    unfold Gr.rtk at h ⊢
    by_cases h4:(Gr.withd d n (l.length:Int)).2=0
    ·rw [ip h4]
     obtain⟨w1,w2,w3,w4,w5⟩:=Gr.withd_o29 h4
     unfold Gr.nums
     rw [List.length_map]
     have:=Gr.alls_length (Gr.withd d n (l.length:Int)).1
     have:=(Gr.cnt_ok (show Gr.chk (Gr.withd d n (l.length:Int)).1=0 by rw [w5];exact w4)).2.2
     omega
    ·rw [iN h4];simp
   ·rw [iN h3];simp
 ·rw [iN h1] at h ⊢
  have hg:=Gr.agr_sen (Gr.whole_rgt hok) op n a b c l (fun _=>Gr.whole_row hok)
  have:=(hg.1 h).2.2.2.2.1
  omega
theorem rof_l (op n a b c p q r t:Int)(kp:Bool)(l:List Int)(dims:List (List Int))(hn:dims.length≤1000)(hl:l.length≤1000)(h33:33≤op)(h40:op≤40)(hd:(dims.length:Int)=(if op=40 then 2 else 1)):∀ i,i≤dims.length→(∀ x ∈ dims.take i,Gr.chk x=0) →
  Ev (fun k=>fbb.l0 k op dims (dims.length:Int) (i:Int) n a b c p q r t kp l) (if Gr.fchk (dims.drop i)=0 then
  (if op=39 then Gr.putv (dims.getD 0 []) n a l else if op=40 then Gr.joinv (dims.getD 0 []) (dims.getD 1 []) n else
   if(Gr.sgl (dims.getD 0 []) op n a b c l).2.2=0 then((Gr.sgl (dims.getD 0 []) op n a b c l).1,List.replicate (Gr.sgl (dims.getD 0 []) op n a b c l).2.1.length 0,(Gr.sgl (dims.getD 0 []) op n a b c l).2.1,0)else([],[],[],(Gr.sgl (dims.getD 0 []) op n a b c l).2.2))
  else([],[],[],Gr.fchk (dims.drop i))):=by
 apply down
 ·intro hc
  rw [List.take_length] at hc
  rw [List.drop_length,ip (show Gr.fchk []=0 from rfl)]
  have hp:0 < dims.length:=by split at hd <;> omega
  have hc0:=hc _ (getD_mem dims 0 hp)
  by_cases h2:op=39
  ·rw [ip h2]
   refine Ev.step (fun k=>by rw [fbb.l0,iN (by omega),ip h2,ip (by omega),rd_L0]) (Ev.bind (rput _ n a b c p q r t kp l hc0 (by omega)) (Ev.now _))
  ·rw [iN h2]
   by_cases h3:op=40
   ·rw [ip h3]
    rw [ip h3] at hd
    have hc1:=hc _ (getD_mem dims 1 (by omega))
    refine Ev.step (fun k=>by rw [fbb.l0,iN (by omega),iN h2,ip h3,ip (by omega),ip (by omega),rd_L0,rd_L1']) (Ev.bind (rjoin _ _ n hc0 hc1) (Ev.now _))
   ·rw [iN h3]
    refine Ev.step (fun k=>by rw [fbb.l0,iN (by omega),iN h2,iN h3,ip (by omega),rd_L0]) (Ev.bind (rsingle _ hc0 op n a b c p q r t kp l hl h33 (by omega)) ?_)
    by_cases g:(Gr.sgl (dims.getD 0 []) op n a b c l).2.2=0
    ·rw [ip g]
     refine Ev.congr (fun k=>by rw [ip g]) ?_
     have:=rof_1 (Gr.sgl (dims.getD 0 []) op n a b c l).1 (Gr.sgl (dims.getD 0 []) op n a b c l).2.1 _ (sgl_len _ hc0 op n a b c l g) 0 (by omega)
     exact this
    ·rw [iN g]
     exact Ev.congr (fun k=>by rw [iN g]) (Ev.now _)
 ·intro i hi ih hc
  rw [List.drop_eq_getElem_cons hi]
  unfold Gr.fchk
  by_cases h:Gr.chk dims[i]=0
  ·rw [ip h]
   refine Ev.step (fun k=>by rw [fbb.l0,ip (by omega),ip (by omega),ip (by omega),rdl dims i hi]) (Ev.bind (ref_check _) ?_)
   refine Ev.congr (fun k=>by rw [ip h,nx i _ hi (by omega)]) (ih (fun x hx=>?_))
   rw [List.take_succ_eq_append_getElem hi,List.mem_append,List.mem_singleton] at hx
   rcases hx with hx|rfl
   ·exact hc x hx
   ·exact h
  ·rw [iN h,iN h]
   refine Ev.step (fun k=>by rw [fbb.l0,ip (by omega),ip (by omega),ip (by omega),rdl dims i hi]) (Ev.bind (ref_check _) ?_)
   exact Ev.congr (fun k=>by rw [iN h]) (Ev.now _)
theorem rof (op n a b c p q r t:Int)(kp:Bool)(l:List Int)(dims:List (List Int))(hn:dims.length≤1000)(hl:l.length≤1000):Ev (fun k=>fbb.f k op n a b c p q r t kp l dims) (Gr.ofv op n a b c l dims):=by
 unfold Gr.ofv
 have jt:Ev (fun k=>fbb.j0 k op dims true n a b c p q r t kp l) (([]:List Int),([]:List Int),([]:List Int),(14:Int)):=Ev.step (fun k=>by rw [fbb.j0,ip rfl]) (Ev.now _)
 by_cases h1:33≤op∧op≤40
 ·rw [ip h1]
  refine Ev.congr (fun k=>by rw [fbb.f,iN (by omega)]) (Ev.congr (fun k=>by rw [decide_eq_false (show ¬ op > 40 by omega)]) ?_)
  have j1:Ev (fun k=>fbb.j1 k op dims true n a b c p q r t kp l) (([]:List Int),([]:List Int),([]:List Int),(1:Int)):=Ev.step (fun k=>by rw [fbb.j1,ip rfl]) (Ev.now _)
  by_cases h2:(dims.length:Int)=(if op=40 then 2 else 1)
  ·rw [ip h2]
   have hm:=rof_l op n a b c p q r t kp l dims hn hl h1.1 h1.2 h2 0 (by omega) (by simp)
   rw [List.drop_zero] at hm
   have j1':Ev (fun k=>fbb.j1 k op dims false n a b c p q r t kp l) _:=Ev.step (fun k=>by rw [fbb.j1,iN (by simp)];rfl) hm
   refine Ev.step (fun k=>?_) j1'
   rw [fbb.j0,iN (by simp)]
   by_cases h3:op=40
   ·rw [ip h3] at h2;rw [ip h3,ip h2]
   ·rw [iN h3] at h2;rw [iN h3,bne_eq_false_iff_eq.2 h2]
  ·rw [iN h2]
   refine Ev.step (fun k=>?_) j1
   rw [fbb.j0,iN (by simp)]
   by_cases h3:op=40
   ·rw [ip h3] at h2;rw [ip h3,iN h2]
   ·rw [iN h3] at h2;rw [iN h3,bne_iff_ne.2 h2]
 ·rw [iN h1]
  refine Ev.congr (fun k=>?_) jt
  rw [fbb.f]
  by_cases g:op < 33
  ·rw [ip g]
  ·rw [iN g,decide_eq_true (by omega)]
theorem nodup_inj {l:List Int} (h:l.Nodup)(i j:Nat)(hi:i < l.length)(hj:j < l.length)(e:l[i]=l[j]):i=j:=by
 have hp:=List.pairwise_iff_getElem.1 h
 rcases Nat.lt_trichotomy i j with c|c|c
 ·exact absurd e (hp i j hi hj c)
 ·exact c
 ·exact absurd e.symm (hp j i hj hi c)
theorem seen_l (d l p:List Int)(hp:Gr.Pm l)(hl:l.length=d.length)(hpl:p.length=l.length)(h6:l.length≤6):∀ i,i≤l.length→∀ out:List Int,out.length=d.length→(∀ m:Nat,m < i→m < l.length→Gr.at0 out (Gr.at0 l (m:Int))=Gr.at0 p (m:Int)) →
  Ev (fun k=>fbn.l0 k d p out l (l.length:Int) (i:Int)) ((Gr.plc d (Gr.prm p (Gr.bk l))).1,p):=by
 apply down
 ·intro out ho hm
  have e:out=Gr.prm p (Gr.bk l):=by
   apply Gr.at0_ext
   ·rw [Gr.prm_length,Gr.bk_length];omega
   ·intro j hj
    obtain⟨m,hm1,hm2,hm3⟩:=Gr.pm_back hp j (by omega)
    rw [Gr.at0_prm _ _ _ (by rw [Gr.bk_length];omega),hm3,← hm2,hm m hm1 hm1]
  rw [e]
  refine Ev.step (fun k=>by rw [fbn.l0,iN (by omega)]) (Ev.bind (walk_place _ _) (Ev.now _))
 ·intro i hi ih out ho hm
  have hr:=hp.range l[i] (List.getElem_mem hi)
  have e1:rd l (i:Int)=l[i]:=by rw [← at0_rd,Gr.at0_get l i hi]
  refine Ev.step (fun k=>?_) (ih (out.set l[i].toNat (rd p (i:Int))) (by simp;omega) ?_)
  ·rw [fbn.l0,ip (by omega),ip (by omega),ip (by omega),ip (by omega),e1,ip (by omega),ip (by omega),nx i _ hi (by omega)]
  ·intro m hmi hml
   obtain⟨x,hx⟩:=Int.eq_ofNat_of_zero_le hr.1
   rw [Gr.at0_get l m hml]
   by_cases c:m=i
   ·subst c
    rw [hx,Int.toNat_natCast,Gr.at0_set_same _ _ (by omega)];rfl
   ·have hne:l[m]≠l[i]:=fun h=>c (nodup_inj hp.nodup m i hml hi h)
    have hr2:=hp.range l[m] (List.getElem_mem hml)
    obtain⟨y,hy⟩:=Int.eq_ofNat_of_zero_le hr2.1
    rw [hx,Int.toNat_natCast,hy,Gr.at0_set_other _ _ _ (by omega),← hy,← Gr.at0_get l m hml,hm m (by omega) hml]
theorem mseen (d:List Int)(hc:Gr.chk d=0) (op n a b c p q r t:Int)(kp:Bool)(l:List Int)(hl:l.length≤1000)(h33:33≤op)(h37:op≤37)(h:(Gr.ses d op n a b c l).2.2=0) (i:Int)(h0:0≤i)(h1:i < Gr.cnt (Gr.ses d op n a b c l).1) :
  ∃ L,Ev (fun k=>fbn.f k op n a b c p q r t kp l d (Gr.ses d op n a b c l).1 (Gr.dig (Gr.ses d op n a b c l).1 i) i) (Gr.at0 (Gr.ses d op n a b c l).2.1 i,L):=by
 have d6:=(Gr.chk_ok hc).1
 by_cases e1:op=33
 ·have e:Gr.ses d op n a b c l=Gr.rsp d l:=by unfold Gr.ses;rw [ip e1]
  rw [e] at h h1 ⊢
  obtain⟨w1,w2,w3⟩:=Gr.rsp_ok h
  rw [w3] at h1 ⊢
  simp only at h1 ⊢
  rw [Gr.at0_map_range _ _ _ h0 (by omega),Int.toNat_of_nonneg h0]
  exact⟨_,Ev.congr (fun k=>by rw [fbn.f,iN (by omega),iN (by omega),iN (by omega),iN (by omega)]) (Ev.now _)⟩
 ·by_cases e2:op=34
  ·have e:Gr.ses d op n a b c l=Gr.rpm d l:=by unfold Gr.ses;rw [iN e1,ip e2]
   rw [e] at h h1 ⊢
   obtain⟨w1,w2⟩:=Gr.rpm_ok h
   obtain⟨p1,p2,p3,p4,p5⟩:=Gr.perm_ok w1
   rw [w2] at h1 ⊢
   simp only at h1 ⊢
   have hi:=Gr.inb_dig (Gr.prm d l) (Gr.chk_ok p4).2.1 i
   have hpl:=Gr.inb_length hi
   rw [Gr.prm_length] at hpl
   rw [Gr.nums_at i h0 h1,← Gr.plc_in hc (Gr.inb_prm p2 d _ p3.symm hi)]
   refine⟨Gr.dig (Gr.prm d l) i,Ev.congr (fun k=>by rw [fbn.f,ip e2,ip (by omega),ip (by omega)]) ?_⟩
   exact seen_l d l _ p2 p3 hpl (by omega) 0 (by omega) _ (by simp) (fun m hm=>absurd hm (by omega))
  ·by_cases e3:op=35
   ·have e:Gr.ses d op n a b c l=Gr.rsl d n a b c:=by unfold Gr.ses;rw [iN e1,iN e2,ip e3]
    rw [e] at h h1 ⊢
    obtain⟨r1,r2,r3,r4,r5,r6,r7⟩:=Gr.rsl_ok h
    obtain⟨s1,s2,s3,s4,s5⟩:=Gr.rsl_at h i h0 h1
    have hpl:=Gr.inb_length s2
    rw [List.length_set] at hpl
    obtain⟨j,rfl⟩:=Int.eq_ofNat_of_zero_le r1
    have hx:=Gr.ok_le hc _ (List.getElem_mem (show j < d.length by omega))
    rw [← Gr.at0_get d j (by omega)] at hx
    rw [s1,← Gr.plc_in hc s2]
    generalize hP:Gr.dig (Gr.rsl d (j:Int) a b c).1 i=P at s1 s2 s3 s4 s5 hpl ⊢
    have ew:wrap64 (a + wrap64 (rd P (j:Int) * c))=a + Gr.at0 P (j:Int) * c:=by
     rw [← at0_rd,w64 (x:=Gr.at0 P (j:Int) * c) (by omega) (by omega),w64 (by omega) (by omega)]
    by_cases hb:b=1
    ·refine⟨P.set (j:Int).toNat a,Ev.congr (fun k=>by rw [fbn.f,iN e2,ip e3,ip r1,ip (by omega),Option.bind_some,ip hb,Option.bind_some,List.set_set]) (Ev.bind (walk_place _ _) ?_)⟩
     rw [s3 hb,Int.zero_mul,Int.add_zero]
     exact Ev.now _
    ·refine⟨_,Ev.congr (fun k=>by rw [fbn.f,iN e2,ip e3,ip r1,ip (by omega),Option.bind_some,iN hb,ew]) (Ev.bind (walk_place _ _) (Ev.now _))⟩
   ·by_cases e4:op=36
    ·have e:Gr.ses d op n a b c l=Gr.rex d l:=by unfold Gr.ses;rw [iN e1,iN e2,iN e3,ip e4]
     rw [e] at h h1 ⊢
     obtain⟨w1,w2,w3⟩:=Gr.rex_ok h
     rw [w3] at h1 ⊢
     simp only at h1 ⊢
     obtain⟨j,rfl⟩:=Int.eq_ofNat_of_zero_le h0
     have hj:j < (Gr.srcs d l).length:=by have:=Gr.srcs_length d l w2;omega
     rw [Gr.at0_get _ _ hj,Gr.srcs_get d l w2 j hj]
     refine⟨Gr.dig l (j:Int),Ev.congr (fun k=>by rw [fbn.f,iN e2,iN e3,ip e4]) (Ev.bind (source d l (j:Int)) ?_)⟩
     rw [ip ⟨w2,h0,h1⟩]
     exact Ev.now _
    ·have e:Gr.ses d op n a b c l=Gr.rfl_ d n:=by unfold Gr.ses;rw [iN e1,iN e2,iN e3,iN e4]
     rw [e] at h h1 ⊢
     obtain⟨r1,r2,r7⟩:=Gr.rfl_ok h
     obtain⟨s1,s2,s3,s4⟩:=Gr.rfl_at h i h0 h1
     have hpl:=Gr.inb_length s2
     rw [List.length_set] at hpl
     obtain⟨j,rfl⟩:=Int.eq_ofNat_of_zero_le r1
     have hx:=Gr.ok_le hc _ (List.getElem_mem (show j < d.length by omega))
     rw [← Gr.at0_get d j (by omega)] at hx
     rw [s1,← Gr.plc_in hc s2]
     generalize hP:Gr.dig (Gr.rfl_ d (j:Int)).1 i=P at s1 s2 s3 s4 hpl ⊢
     have ew:wrap64 (wrap64 (rd d (j:Int) - 1) - rd P (j:Int))=Gr.at0 d (j:Int) - 1 - Gr.at0 P (j:Int):=by
      rw [← at0_rd,← at0_rd,w64 (x:=Gr.at0 d (j:Int) - 1) (by omega) (by omega),w64 (by omega) (by omega)]
     exact⟨_,Ev.congr (fun k=>by rw [fbn.f,iN e2,iN e3,iN e4,ip (by omega),ip r1,ip r2,ip (by omega),Option.bind_some,ew]) (Ev.bind (walk_place _ _) (Ev.now _))⟩
theorem mfrom (op n a b c p q r t:Int)(kp:Bool)(l:List Int)(dims:List (List Int)) (i:Int)(hn:dims.length≤1000)(hl:l.length≤1000) :
  Ev (fun k=>fbg.f k op n a b c p q r t kp l dims i) (Gr.mff op n a b c l dims i):=by
 refine Ev.congr (fun k=>by rw [fbg.f]) (Ev.bind (mdims op n a b c p q r t kp l dims hn hl) (Ev.bind (walk_at _ i) ?_))
 have jt:∀ X Y,Ev (fun k=>fbg.j0 k op dims i X Y true n a b c p q r t kp l) ((0:Int),(0:Int),false):=fun X Y=>Ev.step (fun k=>by rw [fbg.j0,ip rfl]) (Ev.now _)
 unfold Gr.mff
 by_cases h:(Gr.mvd op n a b c l dims).2=0
 ·by_cases h2:(Gr.att (Gr.mvd op n a b c l dims).1 i).2=true
  ·obtain⟨b0,b1,hco,e,hp⟩:=att_ok h2
   obtain⟨w1,w2,w3,w4,w5,w6⟩:=Gr.mvd_ok h
   refine Ev.congr (fun k=>by rw [ip h,ip h2,e]) ?_
   by_cases h39:op=39
   ·rw [iN (fun x=>x.2.1 h39),beq_iff_eq.2 h39]
    exact jt _ _
   ·rw [ip ⟨h,h39,b0,b1⟩,beq_eq_false_iff_ne.2 h39]
    dsimp only
    refine Ev.step (fun k=>by rw [fbg.j0,iN (by simp)]) ?_
    have hc0:Gr.chk (dims.getD 0 [])=0:=Gr.fchk_all w4 _ (getD_mem dims 0 (by split at w3 <;> omega))
    have d6:=(Gr.chk_ok hc0).1
    by_cases h38:op=38
    ·subst h38
     obtain⟨t1,t2,t3,t4,t5⟩:=Gr.mvd_t h
     obtain⟨u1,u2,u3,u4⟩:=Gr.rtk_at t1 (Gr.inr_mem t2) i b0 (by rw [← t3];exact b1)
     obtain⟨v1,v2,v3,v4,v5⟩:=Gr.rtk_ok2 t1
     rw [t4,t5,t3,Gr.at0_rep,u1,← Gr.plc_in hc0 u2]
     have hpl:=Gr.inb_length u2
     unfold Gr.tkf at hpl ⊢
     rw [List.length_set] at hpl
     obtain⟨m,hm⟩:=Int.eq_ofNat_of_zero_le u3
     have hx:=Gr.inr_mem t2 _ (List.getElem_mem (show m < l.length by omega))
     refine Ev.congr (fun k=>by rw [ip rfl,ip v2,ip (by omega),← at0_rd,ip u3,ip u4,ip (by simp at w3;omega),rd_L0,← at0_rd]) (Ev.bind (walk_place _ _) (Ev.now _))
    ·by_cases h40:op=40
     ·subst h40
      obtain⟨j1,j2,j3,j4⟩:=Gr.mvd_j h
      rw [ip rfl] at w3
      have hc1:Gr.chk (dims.getD 1 [])=0:=Gr.fchk_all w4 _ (getD_mem dims 1 (by omega))
      obtain⟨x1,x2,x3,x4,x5⟩:=Gr.jn_in j1 (by rw [← j2];exact hp)
      obtain⟨y1,y2,y3,y4,y5,y6,y7⟩:=Gr.joind_ok j1
      rw [j3,j4,Gr.at0_alls _ _ b0 (by rw [← j2];exact b1),Gr.at0_alls _ _ b0 (by rw [← j2];exact b1),← j2]
      generalize hP:Gr.dig (Gr.mvd 40 n a b c l dims).1 i=P at x1 x2 x3 x4 x5 ⊢
      obtain⟨j,rfl⟩:=Int.eq_ofNat_of_zero_le y1
      have g0:=Gr.ok_le hc0 _ (List.getElem_mem (show j < (dims.getD 0 []).length by omega))
      have g1:=Gr.ok_le hc1 _ (List.getElem_mem (show j < (dims.getD 1 []).length by omega))
      rw [← Gr.at0_get _ j (by omega)] at g0 g1
      refine Ev.congr (fun k=>by rw [iN (by omega),ip rfl,ip (by omega),ip y1,rd_L0,rd_L1',ip y2,ip (by omega),← at0_rd,← at0_rd]) ?_
      by_cases hlt:Gr.at0 P (j:Int) < Gr.at0 (dims.getD 0 []) (j:Int)
      ·have e1:Gr.jnw (dims.getD 0 []) (j:Int) P=0:=by unfold Gr.jnw;rw [ip hlt]
       have e2:Gr.jnf (dims.getD 0 []) (dims.getD 1 []) (j:Int) P=(Gr.plc (dims.getD 0 []) P).1:=by
        unfold Gr.jnf;rw [ip hlt,Gr.plc_in hc0 (x1 hlt)];unfold Gr.plr Gr.ind;rw [decide_eq_true hc0,x1 hlt];rfl
       rw [e1,e2]
       exact Ev.congr (fun k=>by rw [iN (by omega)]) (Ev.bind (walk_place _ _) (Ev.now _))
      ·have e1:Gr.jnw (dims.getD 0 []) (j:Int) P=1:=by unfold Gr.jnw;rw [iN hlt]
       have e2:Gr.jnf (dims.getD 0 []) (dims.getD 1 []) (j:Int) P=(Gr.plc (dims.getD 1 []) (P.set (j:Int).toNat (Gr.at0 P (j:Int) - Gr.at0 (dims.getD 0 []) (j:Int)))).1:=by
        unfold Gr.jnf;rw [iN hlt,Gr.plc_in hc1 (x2 hlt)];unfold Gr.plr Gr.ind;rw [decide_eq_true hc1,x2 hlt];rfl
       rw [e1,e2]
       exact Ev.congr (fun k=>by rw [ip (by omega),ip (by omega),w64 (by omega) (by omega)]) (Ev.bind (walk_place _ _) (Ev.now _))
     ·obtain⟨s1,s2,s3,s4⟩:=Gr.mvd_v h (by omega)
      rw [s2] at b1 ⊢
      rw [s3,s4,Gr.at0_rep]
      obtain⟨L,hL⟩:=mseen (dims.getD 0 []) hc0 op n a b c p q r t kp l hl w1 (by omega) s1 i b0 b1
      refine Ev.congr (fun k=>by rw [iN h38,iN h40,ip (by rw [iN h40] at w3;omega),rd_L0]) (Ev.bind hL (Ev.now _))
  ·rw [iN (fun x=>h2 (by unfold Gr.att;rw [ip ⟨x.2.2.1,x.2.2.2⟩]))]
   refine Ev.congr (fun k=>by rw [ip h,iN h2]) (jt _ _)
 ·rw [iN (fun x=>h x.1)]
  exact Ev.congr (fun k=>by rw [iN h]) (jt _ _)
end Go.Proofs.Ytcdiobcldhiemaa.S
namespace Go.Proofs.Ytcdiobcldhiemaa.Pure
open Go.RowKit Go.Proofs.Ytcdiobcldhiemaa.Q Go.Proofs.Ytcdiobcldhiemaa.S Go.Proofs.YtcdiobcldhiemaaW.PrintWords Go.Proofs.YtcdiobcldhiemaaW.PrintLast
set_option linter.unusedVariables false
set_option linter.unusedSimpArgs false
theorem dims_nx (i n:Nat)(h:i < n)(hn:n≤9223372036854775807):wrap64 ((i:Int) + 1)=((i + 1:Nat):Int):=by
 rw [w64 (by omega) (by omega)];omega
theorem dims_many (n a b c p q r s:Int)(kp:Bool)(l:List Int)(dims:List (List Int))(hn:dims.length≤9223372036854775807):∀ i,i≤dims.length→∃ v,(v=false→l.length≤80∧dims.length≤10)∧Ev (fun k=>fab.l0 k dims (dims.length:Int) (i:Int) n a b c p q r s kp l) v:=by
 apply down
 ·by_cases h:(l.length:Int) > 80
  ·refine⟨true,fun hh=>absurd hh (by simp),Ev.step (fun k=>?_) (Ev.now _)⟩
   rw [fab.l0,iN (by omega),ip h]
  ·refine⟨decide ((dims.length:Int) > 10),fun hh=>⟨by omega,by have:=of_decide_eq_false hh;omega⟩,Ev.step (fun k=>?_) (Ev.now _)⟩
   rw [fab.l0,iN (by omega),iN h]
 ·intro i hi ih
  obtain⟨v,hv,ih⟩:=ih
  by_cases h:((dims[i].length:Nat):Int) > 20
  ·refine⟨true,fun hh=>absurd hh (by simp),Ev.step (fun k=>?_) (Ev.now _)⟩
   rw [fab.l0,ip (by omega),ip (by omega),ip (by omega),rdl dims i hi,ip h]
  ·refine⟨v,hv,Ev.step (fun k=>?_) ih⟩
   rw [fab.l0,ip (by omega),ip (by omega),ip (by omega),rdl dims i hi,iN h,dims_nx i _ hi hn]
theorem ofv_err (op n a b c:Int)(l:List Int)(dims:List (List Int))(h:(Gr.ofv op n a b c l dims).2.2.2≠0):(Gr.ofv op n a b c l dims).2.2.1=[]:=by
 revert h
 unfold Gr.ofv Gr.putv Gr.joinv
 repeat' split
 all_goals intro h
 all_goals first|rfl|exact absurd rfl h
theorem mff_or (op n a b c:Int)(l:List Int)(dims:List (List Int)) (i:Int)(h39:op≠39) :
  (Gr.mff op n a b c l dims i=(rd (Gr.ofv op n a b c l dims).2.1 i,rd (Gr.ofv op n a b c l dims).2.2.1 i,true)∧0≤i∧i < ((Gr.ofv op n a b c l dims).2.1.length:Int)∧i < ((Gr.ofv op n a b c l dims).2.2.1.length:Int)) ∨
  (Gr.mff op n a b c l dims i=(0,0,false)∧¬ (0≤i∧i < ((Gr.ofv op n a b c l dims).2.2.1.length:Int))):=by
 have he:=(Gr.ofv_mvd op n a b c l dims).2
 unfold Gr.mff
 by_cases h:(Gr.mvd op n a b c l dims).2=0
 ·obtain⟨l1,l2⟩:=Gr.mff_len h39 h
  by_cases g:0≤i∧i < Gr.cnt (Gr.mvd op n a b c l dims).1
  ·rw [ip ⟨h,h39,g.1,g.2⟩]
   exact .inl ⟨rfl,g.1,by omega,by omega⟩
  ·rw [iN (fun x=>g x.2.2)]
   exact .inr ⟨rfl,by omega⟩
 ·rw [iN (fun x=>h x.1)]
  refine .inr ⟨rfl,?_⟩
  rw [ofv_err op n a b c l dims (by rw [he];exact h)]
  simp
theorem dims_l0 (op n a b c p q r t:Int)(kp:Bool)(l:List Int)(dims:List (List Int))(hn:dims.length≤1000)(hl:l.length≤1000):∀ m:Nat,m≤67 →
  Ev (fun k=>faa.l0 k op dims ((m:Int) - 1) n a b c p q r t kp l (Gr.ofv op n a b c l dims).1 (Gr.ofv op n a b c l dims).2.1 (Gr.ofv op n a b c l dims).2.2.1) true:=by
 apply down
 ·refine Ev.step (fun k=>by rw [faa.l0,iN (by omega)];rfl) (Ev.now _)
 ·intro m hm ih
  have en:wrap64 ((m:Int) - 1 + 1)=((m + 1:Nat):Int) - 1:=by rw [w64 (by omega) (by omega)];omega
  have nxt:∀ x y:Int,Ev (fun k=>faa.j2 k op dims ((m:Int) - 1) x y false false n a b c p q r t kp l (Gr.ofv op n a b c l dims).1 (Gr.ofv op n a b c l dims).2.1 (Gr.ofv op n a b c l dims).2.2.1) true:=fun x y =>
   Ev.step (fun k=>by rw [faa.j2,iN (by simp),iN (by simp),en]) ih
  refine Ev.step (fun k=>by rw [faa.l0,ip (by omega)]) (Ev.bind (mfrom op n a b c p q r t kp l dims _ hn hl) ?_)
  by_cases h39:op=39
  ·have e:Gr.mff op n a b c l dims ((m:Int) - 1)=(0,0,false):=by unfold Gr.mff;rw [iN (fun x=>x.2.1 h39)]
   rw [e]
   refine Ev.congr (fun k=>by rw [ip h39,iN (by simp),ip rfl];rfl) (nxt 0 0)
  ·rcases mff_or op n a b c l dims ((m:Int) - 1) h39 with⟨e,h0,h1,h2⟩|⟨e,h0⟩
   ·rw [e]
    refine Ev.congr (fun k=>by rw [iN h39,ip h0,decide_eq_true h2,iN (by simp),ip rfl]) ?_
    refine Ev.step (fun k=>by rw [faa.j2,iN (by simp),ip rfl,ip h0,ip h1,ip rfl,ip h2,ip rfl,en]) ih
   ·rw [e]
    by_cases g:(m:Int) - 1 ≥ 0
    ·refine Ev.congr (fun k=>by rw [iN h39,ip g,decide_eq_false (fun x=>h0 ⟨g,x⟩),iN (by simp),iN (by simp),ip rfl];rfl) (nxt 0 0)
    ·refine Ev.congr (fun k=>by rw [iN h39,iN g,iN (by simp),iN (by simp),ip rfl];rfl) (nxt 0 0)
theorem MoveDims (op n a b c p q r t:Int)(kp:Bool)(l:List Int)(dims:List (List Int))(hlim:dims.length≤9223372036854775807):Ev (fun k=>faa.f k op n a b c p q r t kp l dims) true:=by
 obtain⟨v,hv,hE⟩:=dims_many n a b c p q r t kp l dims hlim 0 (by omega)
 have hE':Ev (fun k=>fab.f k n a b c p q r t kp l dims) v:=hE
 refine Ev.congr (fun k=>by rw [faa.f]) (Ev.bind hE' ?_)
 cases v with
 | true=>exact Ev.congr (fun k=>by rw [ip rfl];rfl) (Ev.now true)
 | false =>
  obtain⟨hl,hn⟩:=hv rfl
  obtain⟨o1,o2⟩:=Gr.ofv_mvd op n a b c l dims
  have hr:=Gr.rgt_mvd op n a b c l dims
  have hlen:(Gr.mvd op n a b c l dims).1.length≤6:=by
   by_cases h:(Gr.mvd op n a b c l dims).2=0
   ·exact(Gr.chk_ok (hr.1 h)).1
   ·rw [hr.2 h];simp
  have j0:Ev (fun k=>faa.j0 k op dims false n a b c p q r t kp l (Gr.ofv op n a b c l dims).1 (Gr.ofv op n a b c l dims).2.1 (Gr.ofv op n a b c l dims).2.2.1) true :=
   Ev.step (fun k=>by rw [faa.j0,iN (by simp)];rfl) (dims_l0 op n a b c p q r t kp l dims (by omega) (by omega) 0 (by omega))
  refine Ev.congr (fun k=>by rw [iN (by simp)]) (Ev.bind (mdims op n a b c p q r t kp l dims (by omega) (by omega)) (Ev.bind (rof op n a b c p q r t kp l dims (by omega) (by omega)) ?_))
  refine Ev.congr (fun k=>by rw [ip o2.symm]) (Ev.bind (ints _ _ (by omega)) ?_)
  refine Ev.congr (fun k=>by rw [ip (decide_eq_true o1.symm)]) ?_
  by_cases g:op ≥ 33
  ·refine Ev.congr (fun k=>?_) j0
   rw [fbh.f,ip g,Option.bind_some,ip g,bne_self_eq_false,iN (by simp),fbi.f,ip g,Option.bind_some,bne_self_eq_false]
  ·refine Ev.congr (fun k=>?_) j0
   rw [fbh.f,iN g,Option.bind_some,iN g,bne_self_eq_false,iN (by simp),fbi.f,iN g,Option.bind_some,bne_self_eq_false]
theorem MoveDims_walk (w:World) (op:Int)(_:(Lit.int .i64 op).wf=true) (n:Int)(_:(Lit.int .i64 n).wf=true) (a:Int)(_:(Lit.int .i64 a).wf=true) (b:Int)(_:(Lit.int .i64 b).wf=true) (c:Int)(_:(Lit.int .i64 c).wf=true)
  (p:Int) (_:(Lit.int .i64 p).wf=true) (q:Int) (_:(Lit.int .i64 q).wf=true) (r:Int) (_:(Lit.int .i64 r).wf=true) (t:Int) (_:(Lit.int .i64 t).wf=true) (kp:Bool)
  (A:Option Addr) (cc:Nat) (l:List Int) (hr:Kd.C (Kd.int .i64) w A l.length l) (hc:l.length≤cc) (_:∀ x ∈ l,(Lit.int .i64 x).wf=true)
  (A2:Option Addr) (c2:Nat) (dims:List (List Int)) (hr2:Kd.C (Kd.slice 3 (Kd.int .i64)) w A2 dims.length dims) (hc2:dims.length≤c2) (hlim:dims.length≤maxLen∧∀ x ∈ dims,∀ y ∈ x,(Lit.int .i64 y).wf=true) :
  Calls Try.prog 3 #[.int .i64 op,.agg #[.int .i64 n,.int .i64 a,.int .i64 b,.int .i64 c,.int .i64 p,.int .i64 q,.int .i64 r,.int .i64 t,.bool kp,.slice A l.length cc],.slice A2 dims.length c2] w fun e w'=>e=.returned (.bool true)∧Below w.heap.size w w':=by
 obtain⟨k,h⟩:=(MoveDims op n a b c p q r t kp l dims (by have:=hlim.1;unfold maxLen at this;omega)).rounds
 exact faa.calls k op n a b c p q r t kp A cc l A2 c2 dims w hr hc hr2 hc2 h
end Go.Proofs.Ytcdiobcldhiemaa.Pure
namespace Go.Proofs.Ytcdiobcldhiemaa.O
open Go.RowKit Go.Proofs.YtcdiobcldhiemaaW.PrintWords
set_option linter.unusedVariables false
/-- Whatever cells of type t can be read are a value of kind d with 'ok'. -/
def Opens {α:Type} (P:Program) (d:Kd α) (t:TypeId) (ok:α→Prop):Prop :=
  P.cellsOf t=d.sz∧∀ (H:Type) (enc:TypeId×Value→H) (w:World) (fuel:Nat) (cs:List Value) (x:DataW H×List MemPlace),
    DataW.trod enc P w 0 (fun _=>true) true fuel t cs=some x→∃ a,d.K w a cs∧ok a
theorem opens_int {P:Program} {t:TypeId} (k:IntKind)(ht:P.underlying t=some (.int k))(hc:P.cellsOf t=1):Opens P (Kd.int k) t (fun n=>(Lit.int k n).wf=true):=by
  refine⟨hc,fun H enc w fuel cs x h=>?_⟩
  obtain⟨n,rfl,_,hw⟩:=DataW.trod_int ht h
  exact⟨n,rfl,hw⟩
theorem opens_bool {P:Program} {t:TypeId} (ht:P.underlying t=some .bool)(hc:P.cellsOf t=1):Opens P Kd.bool t (fun _=>True):=by
  refine⟨hc,fun H enc w fuel cs x h=>?_⟩
  obtain⟨n,rfl,_⟩:=DataW.trod_bool ht h
  exact⟨n,rfl,trivial⟩
theorem cells_each {w:World} {a:Addr} {n:Nat} {cs:List Value} (h:w.cells? 0 a n=some cs):cs.length=n∧∀ i u,cs[i]?=some u→w.cell? (a.add i)=some u:=by
  obtain⟨h1,h2,h3⟩:=World.cells?_some h
  refine⟨h2,fun i u hu=>?_⟩
  have hi:i < n:=by
    have:=(List.getElem?_eq_some_iff.1 hu).1
    omega
  rw [h3 i hi,hu]
theorem opens_slice {α:Type} {P:Program} {t e:TypeId} {d:Kd α} {ok:α→Prop} [Inhabited α] (ht:P.underlying t=some (.slice e))(hc:P.cellsOf t=1)(h:Opens P d e ok) :
    Opens P (Kd.slice e d) t (fun l=>∀ x ∈ l,ok x):=by
  refine⟨hc,fun H enc w fuel cs x hx=>?_⟩
  rcases Go.Deep.open_slice ht hx with⟨rfl,_⟩|⟨a,len,cap,m,n,D,Pl,rfl,_,hl,hm,hmm,_,hel⟩
  · exact⟨[],⟨none,0,rfl,Nat.le_refl _,rfl,by simp,fun h0=>absurd h0 (by simp)⟩,by simp⟩
  · simp only [if_true] at hmm
    subst hmm
    have each:∀ i,i < m→∃ y:α,∃ cs',w.cells? 0 (a.add (i * P.cellsOf e)) (P.cellsOf e)=some cs'∧d.K w y cs'∧ok y:=by
      intro i hi
      obtain⟨cs',h1,h2⟩:=hel i hi
      obtain⟨y,h3,h4⟩:=h.2 H enc w n cs' _ h2
      exact⟨y,cs',h1,h3,h4⟩
    obtain⟨f,hf⟩:=Go.Deep.choose_lt each
    refine⟨(List.range len).map f,⟨some a,m,by simp,by simpa using hl,by simp,?_,fun _=>⟨a,rfl,fun j p hp=>?_⟩⟩,?_⟩
    · simp only [List.length_map,List.length_range]
      unfold maxLen at hm
      omega
    · rw [List.getElem?_map] at hp
      have hj:j < len:=by
        apply Decidable.byContradiction
        intro hj
        rw [List.getElem?_eq_none (by simpa using hj)] at hp
        simp at hp
      rw [List.getElem?_eq_getElem (by simpa using hj)] at hp
      simp only [List.getElem_range,Option.map_some,Option.some.injEq] at hp
      subst hp
      obtain⟨cs',h1,h3,_⟩:=hf j (by omega)
      obtain⟨h5,h6⟩:=cells_each h1
      refine⟨cs',by rw [h5,h.1],h3,fun i u hu=>?_⟩
      have:=h6 i u hu
      rw [Go.Deep.add_add,h.1] at this
      exact this
    · intro y hy
      simp only [List.mem_map,List.mem_range] at hy
      obtain⟨i,hi,rfl⟩:=hy
      exact(hf i (by omega)).choose_spec.2.2
theorem opens_sliceL {α:Type} {P:Program} {t e:TypeId} {d:Kd α} {ok:α→Prop} [Inhabited α] (ht:P.underlying t=some (.slice e))(hc:P.cellsOf t=1)(h:Opens P d e ok) :
    Opens P (Kd.slice e d) t (fun l=>l.length≤maxLen∧∀ x ∈ l,ok x):=by
  refine⟨hc,fun H enc w fuel cs x hx=>?_⟩
  rcases Go.Deep.open_slice ht hx with⟨rfl,_⟩|⟨a,len,cap,m,n,D,Pl,rfl,_,hl,hm,hmm,_,hel⟩
  · exact⟨[],⟨none,0,rfl,Nat.le_refl _,rfl,by simp,fun h0=>absurd h0 (by simp)⟩,by simp,by simp⟩
  · simp only [if_true] at hmm
    subst hmm
    have each:∀ i,i < m→∃ y:α,∃ cs',w.cells? 0 (a.add (i * P.cellsOf e)) (P.cellsOf e)=some cs'∧d.K w y cs'∧ok y:=by
      intro i hi
      obtain⟨cs',h1,h2⟩:=hel i hi
      obtain⟨y,h3,h4⟩:=h.2 H enc w n cs' _ h2
      exact⟨y,cs',h1,h3,h4⟩
    obtain⟨f,hf⟩:=Go.Deep.choose_lt each
    refine⟨(List.range len).map f,⟨some a,m,by simp,by simpa using hl,by simp,?_,fun _=>⟨a,rfl,fun j p hp=>?_⟩⟩,by simp only [List.length_map,List.length_range];omega,?_⟩
    · simp only [List.length_map,List.length_range]
      unfold maxLen at hm
      omega
    · rw [List.getElem?_map] at hp
      have hj:j < len:=by
        apply Decidable.byContradiction
        intro hj
        rw [List.getElem?_eq_none (by simpa using hj)] at hp
        simp at hp
      rw [List.getElem?_eq_getElem (by simpa using hj)] at hp
      simp only [List.getElem_range,Option.map_some,Option.some.injEq] at hp
      subst hp
      obtain⟨cs',h1,h3,_⟩:=hf j (by omega)
      obtain⟨h5,h6⟩:=cells_each h1
      refine⟨cs',by rw [h5,h.1],h3,fun i u hu=>?_⟩
      have:=h6 i u hu
      rw [Go.Deep.add_add,h.1] at this
      exact this
    · intro y hy
      simp only [List.mem_map,List.mem_range] at hy
      obtain⟨i,hi,rfl⟩:=hy
      exact(hf i (by omega)).choose_spec.2.2
/-- The fields of a struct, one by one. -/
theorem field {H:Type} {enc:TypeId×Value→H} {P:Program} {w:World} {t:TypeId} {fs:Array Field} {fuel:Nat} {cs:List Value} {x:DataW H×List MemPlace} (ht:P.underlying t=some (.struct fs))(h:DataW.trod enc P w 0 (fun _=>true) true fuel t cs=some x)
    (j:Nat) (f:Field) (hj:fs[j]?=some f):∃ y n,DataW.trod enc P w 0 (fun _=>true) true n f.type ((cs.drop f.offset).take (P.cellsOf f.type))=some y:=by
  obtain⟨xs,n,_,rfl,hl,hlen,hf⟩:=DataW.trod_struct ht h
  have hjl:j < fs.size:=(Array.getElem?_eq_some_iff.1 hj).1
  exact⟨xs[j]'(by omega),n,by rw [hf j f hj,List.getElem?_eq_getElem (by omega)]⟩
theorem seg {l:List Value} {j:Nat} {v:Value} {vs:List Value} (h:(l.drop j).take 1=[v])(h2:l.drop (j + 1)=vs):l.drop j=v :: vs:=by
  rw [← h2,← List.drop_drop]
  rcases hd:l.drop j with _|⟨a,m⟩
  · rw [hd] at h;simp at h
  · rw [hd] at h;simp at h;simp [h]
theorem seg_end {l:List Value} {n:Nat} (h:l.length=n):l.drop n=[]:=by rw [← h];exact List.drop_length
end Go.Proofs.Ytcdiobcldhiemaa.O
