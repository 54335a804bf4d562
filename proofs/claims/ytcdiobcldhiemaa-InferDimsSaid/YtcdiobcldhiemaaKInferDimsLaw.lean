import Derived.Test.YtcdiobcldhiemaaRows
import Derived.WalkKit
import Derived.ProofKit
import Derived.OpenShut
import Derived.ShutString
import Derived.ChangeOld
import Derived.Below
import Derived.SizedLaws
import Derived.Test.YtcdiobcldhiemaaKInferDims4
namespace Go.Proofs.Ytcdiobcldhiemaa.inferDims
open Go.ChangeShapes Go.WideShapes Go.ChangeAt Go.RowKit Go.Proofs.YtcdiobcldhiemaaW.PrintWords
open Go.ChangeMaps (open_string shut_string)
set_option linter.unusedVariables false
theorem own:ownKnob Try.prog.godebug=none:=by kernel_rfl
theorem laidOut:laidOutB Try.prog=true:=by kernel_rfl
theorem op3:O.Opens Try.prog (Kd.int .i64) 3 (fun n=>(Lit.int .i64 n).wf=true):=O.opens_int .i64 Try.underlying3 (by kernel_rfl)
theorem op4:O.Opens Try.prog (Kd.bool) 4 (fun _=>True):=O.opens_bool Try.underlying4 (by kernel_rfl)
theorem op22:O.Opens Try.prog (Kd.slice 3 (Kd.int .i64)) 22 (fun l=>∀ x∈l,(fun n=>(Lit.int .i64 n).wf=true) x):=O.opens_slice Try.underlying22 (by kernel_rfl) op3
theorem op25:O.Opens Try.prog (Kd.slice 22 (Kd.slice 3 (Kd.int .i64))) 25 (fun l=>l.length≤maxLen∧∀ x∈l,(fun l=>∀ x∈l,(fun n=>(Lit.int .i64 n).wf=true) x) x):=O.opens_sliceL Try.underlying25 (by kernel_rfl) op22
set_option maxRecDepth 100000 in
theorem lifted (os:Os)(started:os.Started)(H:Type)(enc:TypeId×Value→H) :
    ReturnsInHanded {} Try.checked os 6 .any (Rows.inferDimsSpec.pre6 enc Try.prog Try.f6 Rows.inferDimsRow.domain false) (Rows.inferDimsSpec.post enc Try.prog Try.f6 false true false false):=by
  refine returnsInHanded_of_change_sized (C:=Try.checked) own started (by kernel_rfl) Try.func6
    (ChangeSpec.witness6 (enc:=enc) (C:=Try.checked) false ⟨#[],#[.int .i64 0,.agg #[.int .i64 0,.int .i64 0,.int .i64 0,.int .i64 0,.int .i64 0,.int .i64 0,.int .i64 0,.int .i64 0,.bool false,.slice none 0 0],.slice none 0 0],[]⟩ 8 (by kernel_rfl) (by kernel_rfl) (by kernel_rfl) (by kernel_rfl)) ?_
  intro W base args ds gs before hval0 hW hcnd hsz0 _
  have hval:∀ (j:Nat) t v,Try.f6.params[j]?=some t→args[j]?=some v→Value.okWide Try.prog W .any base t v:=hval0
  have hW':=hW
  obtain⟨p,q,hA0,hV,rfl,hfz,hnd⟩:=hW
  have hA:DataW.TrodAll enc Try.prog W 0 (fun _=>true) true Try.f6.params.toList args.toList ds p:=hA0
  rw[Try.params6] at hA hval
  obtain⟨v0,vs0,d0,ds0,p0,q0,hargs,rfl,rfl,h0,r0⟩:=trodAll_cons hA
  obtain⟨v1,vs1,d1,ds1,p1,q1,rfl,rfl,rfl,h1,r1⟩:=trodAll_cons r0
  obtain⟨v2,vs2,d2,ds2,p2,q2,rfl,rfl,rfl,h2,r2⟩:=trodAll_cons r1
  obtain⟨rfl,rfl,rfl⟩:=trodAll_nil r2
  obtain rfl:args=#[v0,v1,v2]:=by cases args;simp_all
  obtain⟨rfl,rfl⟩:=trodVars_none hV
  obtain⟨a0,rfl,rfl,rfl,w0⟩:=open_int Try.underlying3 (hval 0 3 v0 rfl rfl) h0
  have k1:=h1
  have lt1:∀ x∈p1,x.block<W.heap.size:=by obtain⟨m,hm⟩:=k1;exact DataW.trod_lt m _ _ _ hm
  obtain⟨cs1,rfl,sz1⟩:=okWide_struct Try.underlying24 (hval 1 24 v1 rfl rfl)
  obtain⟨fu1,hf1⟩:=h1
  obtain⟨y1_0,n1_0,g1_0⟩:=O.field Try.underlying24 hf1 0 _ rfl
  obtain⟨a1_0,e1_0,ok1_0⟩:=op3.2 H enc W _ _ _ g1_0
  obtain⟨y1_1,n1_1,g1_1⟩:=O.field Try.underlying24 hf1 1 _ rfl
  obtain⟨a1_1,e1_1,ok1_1⟩:=op3.2 H enc W _ _ _ g1_1
  obtain⟨y1_2,n1_2,g1_2⟩:=O.field Try.underlying24 hf1 2 _ rfl
  obtain⟨a1_2,e1_2,ok1_2⟩:=op3.2 H enc W _ _ _ g1_2
  obtain⟨y1_3,n1_3,g1_3⟩:=O.field Try.underlying24 hf1 3 _ rfl
  obtain⟨a1_3,e1_3,ok1_3⟩:=op3.2 H enc W _ _ _ g1_3
  obtain⟨y1_4,n1_4,g1_4⟩:=O.field Try.underlying24 hf1 4 _ rfl
  obtain⟨a1_4,e1_4,ok1_4⟩:=op3.2 H enc W _ _ _ g1_4
  obtain⟨y1_5,n1_5,g1_5⟩:=O.field Try.underlying24 hf1 5 _ rfl
  obtain⟨a1_5,e1_5,ok1_5⟩:=op3.2 H enc W _ _ _ g1_5
  obtain⟨y1_6,n1_6,g1_6⟩:=O.field Try.underlying24 hf1 6 _ rfl
  obtain⟨a1_6,e1_6,ok1_6⟩:=op3.2 H enc W _ _ _ g1_6
  obtain⟨y1_7,n1_7,g1_7⟩:=O.field Try.underlying24 hf1 7 _ rfl
  obtain⟨a1_7,e1_7,ok1_7⟩:=op3.2 H enc W _ _ _ g1_7
  obtain⟨y1_8,n1_8,g1_8⟩:=O.field Try.underlying24 hf1 8 _ rfl
  obtain⟨a1_8,e1_8,ok1_8⟩:=op4.2 H enc W _ _ _ g1_8
  obtain⟨y1_9,n1_9,g1_9⟩:=O.field Try.underlying24 hf1 9 _ rfl
  obtain⟨l1_9,⟨A1_9,c1_9,e1_9,hle1_9,hr1_9⟩,ok1_9⟩:=op22.2 H enc W _ _ _ g1_9
  have sl1:cs1.toList.length=10:=by have h_:=sz1;rw[show Try.prog.cellsOf 24=10 from by kernel_rfl] at h_;simpa using h_
  have sg1_0:(cs1.toList.drop 0).take 1=[.int .i64 a1_0]:=by have h_:(cs1.toList.drop 0).take (Try.prog.cellsOf 3)=[.int .i64 a1_0]:=e1_0;rw[show Try.prog.cellsOf 3=1 from by kernel_rfl] at h_;exact h_
  have sg1_1:(cs1.toList.drop 1).take 1=[.int .i64 a1_1]:=by have h_:(cs1.toList.drop 1).take (Try.prog.cellsOf 3)=[.int .i64 a1_1]:=e1_1;rw[show Try.prog.cellsOf 3=1 from by kernel_rfl] at h_;exact h_
  have sg1_2:(cs1.toList.drop 2).take 1=[.int .i64 a1_2]:=by have h_:(cs1.toList.drop 2).take (Try.prog.cellsOf 3)=[.int .i64 a1_2]:=e1_2;rw[show Try.prog.cellsOf 3=1 from by kernel_rfl] at h_;exact h_
  have sg1_3:(cs1.toList.drop 3).take 1=[.int .i64 a1_3]:=by have h_:(cs1.toList.drop 3).take (Try.prog.cellsOf 3)=[.int .i64 a1_3]:=e1_3;rw[show Try.prog.cellsOf 3=1 from by kernel_rfl] at h_;exact h_
  have sg1_4:(cs1.toList.drop 4).take 1=[.int .i64 a1_4]:=by have h_:(cs1.toList.drop 4).take (Try.prog.cellsOf 3)=[.int .i64 a1_4]:=e1_4;rw[show Try.prog.cellsOf 3=1 from by kernel_rfl] at h_;exact h_
  have sg1_5:(cs1.toList.drop 5).take 1=[.int .i64 a1_5]:=by have h_:(cs1.toList.drop 5).take (Try.prog.cellsOf 3)=[.int .i64 a1_5]:=e1_5;rw[show Try.prog.cellsOf 3=1 from by kernel_rfl] at h_;exact h_
  have sg1_6:(cs1.toList.drop 6).take 1=[.int .i64 a1_6]:=by have h_:(cs1.toList.drop 6).take (Try.prog.cellsOf 3)=[.int .i64 a1_6]:=e1_6;rw[show Try.prog.cellsOf 3=1 from by kernel_rfl] at h_;exact h_
  have sg1_7:(cs1.toList.drop 7).take 1=[.int .i64 a1_7]:=by have h_:(cs1.toList.drop 7).take (Try.prog.cellsOf 3)=[.int .i64 a1_7]:=e1_7;rw[show Try.prog.cellsOf 3=1 from by kernel_rfl] at h_;exact h_
  have sg1_8:(cs1.toList.drop 8).take 1=[.bool a1_8]:=by have h_:(cs1.toList.drop 8).take (Try.prog.cellsOf 4)=[.bool a1_8]:=e1_8;rw[show Try.prog.cellsOf 4=1 from by kernel_rfl] at h_;exact h_
  have sg1_9:(cs1.toList.drop 9).take 1=[.slice A1_9 l1_9.length c1_9]:=by have h_:(cs1.toList.drop 9).take (Try.prog.cellsOf 22)=[.slice A1_9 l1_9.length c1_9]:=e1_9;rw[show Try.prog.cellsOf 22=1 from by kernel_rfl] at h_;exact h_
  have ecs1:cs1.toList.drop 0=[.int .i64 a1_0,.int .i64 a1_1,.int .i64 a1_2,.int .i64 a1_3,.int .i64 a1_4,.int .i64 a1_5,.int .i64 a1_6,.int .i64 a1_7,.bool a1_8,.slice A1_9 l1_9.length c1_9]:=(O.seg sg1_0 (O.seg sg1_1 (O.seg sg1_2 (O.seg sg1_3 (O.seg sg1_4 (O.seg sg1_5 (O.seg sg1_6 (O.seg sg1_7 (O.seg sg1_8 (O.seg sg1_9 (O.seg_end sl1)))))))))))
  obtain rfl:cs1=#[.int .i64 a1_0,.int .i64 a1_1,.int .i64 a1_2,.int .i64 a1_3,.int .i64 a1_4,.int .i64 a1_5,.int .i64 a1_6,.int .i64 a1_7,.bool a1_8,.slice A1_9 l1_9.length c1_9]:=by cases cs1;simpa using ecs1
  have k2:=h2
  have lt2:∀ x∈p2,x.block<W.heap.size:=by obtain⟨m,hm⟩:=k2;exact DataW.trod_lt m _ _ _ hm
  obtain⟨a2,len2,cap2,rfl⟩:=okWide_slice Try.underlying25 (hval 2 25 v2 rfl rfl)
  obtain⟨l2,A2,c2,hc2,hle2,hr2,ok2⟩:∃ (l:List _) (A:Option Addr) (c:Nat),Value.slice a2 len2 cap2=.slice A l.length c∧l.length≤c∧Kd.C (Kd.slice 3 (Kd.int .i64)) W A l.length l∧(fun l=>l.length≤maxLen∧∀ x∈l,(fun l=>∀ x∈l,(fun n=>(Lit.int .i64 n).wf=true) x) x) l:=by
    obtain⟨fuel,hf⟩:=h2
    obtain⟨l,⟨A,c,e1,e2,e3⟩,e4⟩:=op25.2 H enc W fuel _ _ hf
    exact⟨l,A,c,by simpa [Value.cells] using e1,e2,e3,e4⟩
  injection hc2 with ea2 eb2 ec2
  subst ea2
  subst eb2
  subst ec2
  clear hA0 hval0 hsz0
  refine(Pure.InferDims_walk W a0 w0 a1_0 ok1_0 a1_1 ok1_1 a1_2 ok1_2 a1_3 ok1_3 a1_4 ok1_4 a1_5 ok1_5 a1_6 ok1_6 a1_7 ok1_7 a1_8 _ _ l1_9 hr1_9 hle1_9 ok1_9 _ _ l2 hr2 hle2 ok2).mono fun e W' ⟨he,bel⟩=>?_
  subst he
  exact⟨_,rfl,_,_,_,[],_,[],hW',trodAll_mk1 (shut_bool Try.underlying4 _),(trodAll_cons_mk (shut_int Try.underlying3 w0) (trodAll_cons_mk (Below.trod laidOut (by kernel_rfl) (of_decide_eq_true (by kernel_rfl)) k1 bel lt1) (trodAll_cons_mk (Below.trod laidOut (by kernel_rfl) (of_decide_eq_true (by kernel_rfl)) k2 bel lt2) trodAll_mk0))),rfl,bel.frame _,fun h=>by cases h⟩
theorem over:Rows.inferDimsRow.holds Try.pinned (OpenSpec.ofChange Rows.inferDimsSpec) :=
  OpenClaim.holds_of_wide 6 Try.f6 rfl rfl rfl rfl rfl rfl rfl ⟨rfl,rfl,rfl,rfl,rfl⟩ rfl rfl rfl rfl rfl (by kernel_rfl) Try.func6 (by kernel_rfl)
    (of_decide_eq_true (by kernel_rfl)) (by unfold Func.isWrapper;first|(rw[ip (by decide +kernel)];kernel_rfl)|(rw[iN (by decide +kernel)];exact⟨rfl,rfl⟩))
    (fun os started H enc _=>lifted os started H enc)
theorem proved:Rows.InferDimsSaid:=over
#print axioms proved
end Go.Proofs.Ytcdiobcldhiemaa.inferDims
namespace Go.Proofs.Ytcdiobcldhiemaa
/-- The row, under a short name, for the claim. -/
theorem inferDims_holds:Rows.InferDimsSaid:=inferDims.proved
end Go.Proofs.Ytcdiobcldhiemaa
