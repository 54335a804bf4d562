/- Texts of the proof of InferDims, part 2: what functions of the program compute, and that they compute it. -/
import Derived.Test.YtcdiobcldhiemaaKInferDimsW
import Derived.Test.YtcdiobcldhiemaaKInferDims1
set_option maxHeartbeats 8000000
set_option maxRecDepth 100000
namespace Go.Proofs.Ytcdiobcldhiemaa.Q
open Go.RowKit Go.Proofs.YtcdiobcldhiemaaW.PrintWords Go.Proofs.YtcdiobcldhiemaaW.PrintLast Go.Proofs.YtcdiobcldhiemaaW.PrintMore
attribute [local go_sem] max2_int min2_int max_two min_two max_three min_three max_four min_four   -- for this text's walks alone
set_option linter.unusedVariables false
set_option linter.unusedSimpArgs false
mutual
def fat.l0:Nat→List Int→List Int→Option (List Int×Int)
 | 0,_,_=>none
 | k+1,x0,x1=>if(x0.length:Int)<(x1.length:Int)then((some (([1]:List Int):List Int)).bind fun zg=>(if zg.length+x0.length<17592186044416 then(fat.l0 k (zg++x0) x1)else(none)))else(fat.l1 k x0 x1)
def fat.l1:Nat→List Int→List Int→Option (List Int×Int)
 | 0,_,_=>none
 | k+1,x0,x1=>if(x1.length:Int)<(x0.length:Int)then((some (([1]:List Int):List Int)).bind fun zh=>(if zh.length+x1.length<17592186044416 then(fat.l1 k x0 (zh++x1))else(none)))else(fat.l2 k x0 x1 ([]:List Int) (x0.length:Int) 0)
def fat.l2:Nat→List Int→List Int→List Int→Int→Int→Option (List Int×Int)
 | 0,_,_,_,_,_=>none
 | k+1,x0,x1,x8,x37,x38=>if x38<x37 then(if 0≤x38 then(if x38<(x0.length:Int)then(if x38<(x1.length:Int)then(if(rd x0 x38)=(rd x1 x38)then(if x8.length<17592186044416 then(fat.l2 k x0 x1 (x8++[mx (rd x0 x38) (rd x1 x38)]) x37 (wrap64 (x38+1)))else(none))else(if(rd x0 x38)=1 then(if x8.length<17592186044416 then(fat.l2 k x0 x1 (x8++[mx (rd x0 x38) (rd x1 x38)]) x37 (wrap64 (x38+1)))else(none))else(if(rd x1 x38)=1 then(if x8.length<17592186044416 then(fat.l2 k x0 x1 (x8++[mx (rd x0 x38) (rd x1 x38)]) x37 (wrap64 (x38+1)))else(none))else(some (([]:List Int),8)))))else(none))else(none))else(none))else((fag.f k x8).bind fun zf=>(if zf=0 then(some (x8,0))else(some (([]:List Int),zf))))
end
def fat.f (k:Nat) (l0 l1:List Int):Option (List Int×Int):=(fag.f k l0).bind fun zd=>((fag.f k l1).bind fun ze=>(if zd=0 then(if ze=0 then(fat.l0 k l0 l1)else(some (([]:List Int),ze)))else(some (([]:List Int),zd))))
def fat.T14:TT:=(true,[([],[]),([],[]),([0,1],[0,1]),([2],[2]),([],[]),([],[]),([4,5],[4,5]),([6],[6]),([3,7],[3,7]),([8],[8]),([9],[9]),([9],[9]),([10,11,9],[9,10,11]),([12,9],[9,12]),([13,9],[9,13]),([9,14],[9,14]),([15,9],[15]),([16],[16]),([16],[16]),([17,18,16],[16,17,18]),([19,16],[16,19]),([20,16],[16,20]),([16,21],[16,21])])
def fat.B14:List Nat:=[0,0,3,7,0,0,48,112,255,511,1023,1023,4095,8191,16383,32767,65535,131071,131071,524287,1048575,2097151,4194303]
theorem fat.tab14:rtab .any (opsOf Try.f79 14)=fat.T14:=by kernel_rfl
theorem fat.bits14:waitsOk fat.T14.2 fat.B14=true:=by kernel_rfl
def fat.T16:TT:=(true,[([],[]),([],[]),([],[]),([1,2],[1,2]),([3],[3]),([],[]),([],[]),([5,6],[5,6]),([7],[7]),([4,8],[4,8]),([9],[9]),([0,10],[0,10]),([11,11,0,1,2,3,4,5,6,7,8,9,10,11],[0,11])])
def fat.B16:List Nat:=[0,0,0,6,14,0,0,96,224,510,1022,2047,4095]
theorem fat.tab16:rtab .any (opsOf Try.f79 16)=fat.T16:=by kernel_rfl
theorem fat.bits16:waitsOk fat.T16.2 fat.B16=true:=by kernel_rfl
theorem fat.calls (k:Nat)(P0_:Nat→Prop)(A0:Option Addr)(c0:Nat)(l0:List Int)(P1_:Nat→Prop)(A1:Option Addr)(c1:Nat)(l1 r1:List Int)(r2:Int)(w:World)(hs0:Kd.V (Kd.int .i64) 3 w w.heap.size (fun k_=>P0_ k_) (.slice A0 l0.length c0) l0)(hs1:Kd.V (Kd.int .i64) 3 w w.heap.size (fun k_=>P1_ k_) (.slice A1 l1.length c1) l1)(h:fat.f k l0 l1=some (r1,r2)) :
  Calls Try.prog 79 #[.slice A0 l0.length c0,.slice A1 l1.length c1] w fun e w'=>∃ v0_:Value,e=.returned (.tuple #[v0_,.int .i64 r2])∧Kd.R (Kd.int .i64) 3 w' w.heap.size (fun k_=>(w.heap.size≤k_)) v0_ r1∧Below w.heap.size w w':=by
 have HO0:=aM (show Kd.V (Kd.int .i64) 3 w w.heap.size (fun k_=>((P0_ k_∨P1_ k_)∨w.heap.size≤k_)) (.slice A0 l0.length c0) l0 from Kd.V_mono hs0 (fun k_ hk=>.inl (.inl hk)))
 have HO1:=aM (show Kd.V (Kd.int .i64) 3 w w.heap.size (fun k_=>((P0_ k_∨P1_ k_)∨w.heap.size≤k_)) (.slice A1 l1.length c1) l1 from Kd.V_mono hs1 (fun k_ hk=>.inl (.inr hk)))
 have HB:=aM (Below.refl w.heap.size w)
 have H:((fag.f k l0).bind fun zd=>((fag.f k l1).bind fun ze=>(if zd=0 then(if ze=0 then(fat.l0 k l0 l1)else(some (([]:List Int),ze)))else(some (([]:List Int),zd)))))=some (r1,r2):=h
 clear h
 replace H:=oB H
 obtain⟨zd,A30,H⟩:=H
 try dsimp only at H
 have A3:=aM A30
 clear A30
 replace H:=oB H
 obtain⟨ze,A40,H⟩:=H
 try dsimp only at H
 have A4:=aM A40
 clear A40
 by_cases c5:zd=0
 rotate_left
 ·rw[iN c5] at H
  have zv:=bF c5
  have zw:=nT c5
  replace H:=oi2 H
  obtain⟨rfl,rfl⟩:=H
  go_enter Try.func79,Try.ntmps79
  go_wp2_with (first|((with_reducible refine gC 30 rfl ?_);refine gL 11 Try.func30 #[.slice A0 l0.length c0] ?_;(with_reducible refine(fag.calls k _ _ l0 zd _ ?s1 ?s2 A3.out).mono ?_);(case s1=>exact pC (Kd.V_reads' HO0.out).2.2);(case s2=>exact(Kd.V_reads' HO0.out).2.1);rintro e w' ⟨rfl,⟨nd,rfl⟩⟩;refine⟨_,rfl,?_⟩)|((with_reducible refine gC 30 rfl ?_);refine gL 13 Try.func30 #[.slice A1 l1.length c1] ?_;(with_reducible refine(fag.calls k _ _ l1 ze _ ?s1 ?s2 A4.out).mono ?_);(case s1=>exact pC (Kd.V_reads' HO1.out).2.2);(case s2=>exact(Kd.V_reads' HO1.out).2.1);rintro e w' ⟨rfl,⟨nd,rfl⟩⟩;refine⟨_,rfl,?_⟩))
  go_ret2
  exact⟨_,pE,pN,qB HB⟩
 rw[ip c5] at H
 have zv:=bT c5
 have zw:=nF c5
 clear c5
 by_cases c6:ze=0
 rotate_left
 ·rw[iN c6] at H
  have zx:=bF c6
  have zy:=nT c6
  replace H:=oi2 H
  obtain⟨rfl,rfl⟩:=H
  go_enter Try.func79,Try.ntmps79
  go_wp2_with (first|((with_reducible refine gC 30 rfl ?_);refine gL 11 Try.func30 #[.slice A0 l0.length c0] ?_;(with_reducible refine(fag.calls k _ _ l0 zd _ ?s1 ?s2 A3.out).mono ?_);(case s1=>exact pC (Kd.V_reads' HO0.out).2.2);(case s2=>exact(Kd.V_reads' HO0.out).2.1);rintro e w' ⟨rfl,⟨nd,rfl⟩⟩;refine⟨_,rfl,?_⟩)|((with_reducible refine gC 30 rfl ?_);refine gL 13 Try.func30 #[.slice A1 l1.length c1] ?_;(with_reducible refine(fag.calls k _ _ l1 ze _ ?s1 ?s2 A4.out).mono ?_);(case s1=>exact pC (Kd.V_reads' HO1.out).2.2);(case s2=>exact(Kd.V_reads' HO1.out).2.1);rintro e w' ⟨rfl,⟨nd,rfl⟩⟩;refine⟨_,rfl,?_⟩))
  go_ret2
  exact⟨_,pE,pN,qB HB⟩
 rw[ip c6] at H
 have zx:=bT c6
 have zy:=nF c6
 clear c6
 have H':=aM H
 clear H
 go_enter Try.func79,Try.ntmps79
 go_wp2_with (first|((with_reducible refine gC 30 rfl ?_);refine gL 11 Try.func30 #[.slice A0 l0.length c0] ?_;(with_reducible refine(fag.calls k _ _ l0 zd _ ?s1 ?s2 A3.out).mono ?_);(case s1=>exact pC (Kd.V_reads' HO0.out).2.2);(case s2=>exact(Kd.V_reads' HO0.out).2.1);rintro e w' ⟨rfl,⟨nd,rfl⟩⟩;refine⟨_,rfl,?_⟩)|((with_reducible refine gC 30 rfl ?_);refine gL 13 Try.func30 #[.slice A1 l1.length c1] ?_;(with_reducible refine(fag.calls k _ _ l1 ze _ ?s1 ?s2 A4.out).mono ?_);(case s1=>exact pC (Kd.V_reads' HO1.out).2.2);(case s2=>exact(Kd.V_reads' HO1.out).2.1);rintro e w' ⟨rfl,⟨nd,rfl⟩⟩;refine⟨_,rfl,?_⟩))
 go_loopg [0] k (fun kq v0 w'=>∃ (yb:List Int),Aside0 (fat.l0 kq yb l1=some (r1,r2))∧Aside0 (kq≤k)∧Aside0 (Kd.V (Kd.int .i64) 3 w' w.heap.size (fun k_=>((P0_ k_∨P1_ k_)∨w.heap.size≤k_)) v0 yb)∧Aside0 (Kd.V (Kd.int .i64) 3 w' w.heap.size (fun k_=>((P0_ k_∨P1_ k_)∨w.heap.size≤k_)) (.slice A1 l1.length c1) l1)∧Aside0 (Below w.heap.size w w'))
 case atStart=>exact⟨(l0),H',⟨Nat.le_refl _⟩,⟨pV HO0.out⟩,⟨pV HO1.out⟩,⟨qB HB⟩⟩
 clear H'
 try clear c1
 try clear zv
 try clear zw
 try clear zx
 try clear zy
 obtain⟨yb,HA,HK1,za,zb,HB⟩:=hrel
 cases gk with
 | zero=>exact absurd HA.out (by simp[fat.l0])
 | succ k1=>?_
 have H:=HA.out
 clear HA
 simp only[fat.l0] at H
 by_cases c7:(yb.length:Int)<(l1.length:Int)
 ·rw[ip c7] at H
  have zz:=dT c7
  have z0:decide (yb.length<l1.length)=true:=decide_eq_true (Int.ofNat_lt.mp c7)
  clear c7
  obtain⟨zg,zi⟩:∃ y_:List Int,y_=(([1]:List Int)):=⟨_,rfl⟩
  replace H:(if zg.length+yb.length<17592186044416 then(fat.l0 k1 (zg++yb) l1)else(none))=some (r1,r2):=pH zi H
  have zp:=aM zi
  clear zi
  by_cases c8:zg.length+yb.length<17592186044416
  rotate_left
  ·rw[iN c8] at H
   cases H
  rw[ip c8] at H
  have LMc8:=aM c8
  clear c8
  obtain⟨z1,zj⟩:∃ y_:List Int,y_=(zg++yb):=⟨_,rfl⟩
  replace H:(fat.l0 k1 z1 l1)=some (r1,r2):=pH zj H
  have Ny691:=aM zj
  clear zj
  have H':=aM H
  clear H
  obtain⟨Ao9,co9,eo9⟩:=Kd.V_slice za.out
  subst eo9
  go_wp2_with (first|((with_reducible refine gD 25 rfl ?_);refine Kd.R_lit (Kd.int .i64) _ 3 ?hg (N:=25) ?hd (xs:=([1]:List Int)) (inner:=[.int .i64 1]) (ok:=fun _=>True) (okp:=fun _=>True) ?hr ?hp (fun _ hk=>hk) trivial (Below.refl _ _) (Nat.le_refl _) (by simp) ?_;(case hd=>rfl);(case hg=>rfl);(case hr=>first|(go_simp;done)|(go_simp;rfl));(case hp=>exact(Reps.one (show Kd.M (Kd.int .i64) _ _ _ 1 [.int .i64 1] from rfl) (Reps.none _ _)));intro v689 w10 ho11 hb hg_ hnew_;clear hg_ hnew_;(first|rw[← zp.out] at ho11|(simp only[Int.reduceToNat] at ho11;rw[← zp.out] at ho11));replace za:=aM (Kd.V_elder' (pV za.out) (Kd.R_base ho11) hb);replace zb:=aM (Kd.V_elder' (pV zb.out) (Kd.R_base ho11) hb);have zq:=aM (Kd.R_lower (Kd.R_newM (M:=fun k_=>(w.heap.size≤k_)) ho11 (below_size (qB HB)) (fun k_ h_=>h_)) (below_size (qB HB)));replace HB:=bS (qB HB) hb;clear hb ho11)|((with_reducible refine gate_builtin (b:=.append) (xs:=#[.tmp 25,.tmp 26]) rfl ?_);at_builtin;refine Kd.R_append_rows (Kd.int .i64) (w0:=w) w.heap.size rfl (.tmp 25) (.tmp 26) 22 3 (.int .i64 0) 8 rfl Try.underlying22 info3 rfl (by decide) (by omega) v689 zg yb _ _ _ (fun k_=>(w.heap.size≤k_)) (fun _=>False) rfl rfl ?aO ?aR (fun _ _ h=>h) (fun _ h=>h.elim) ?aF ?aB ?aS ?aL ?_;(case aR=>exact pC (Kd.V_reads' za.out).2.2);(case aB=>exact(qB HB));(case aF=>exact(fun k_ hk=>(Nat.le_trans (below_size (qB HB)) hk)));(case aO=>exact(by(with_reducible repeat(first|apply rA|apply rN|apply rD));exact Kd.R_mono zq.out (fun _ hk=>hk.1)));(case aS=>exact(below_size (qB HB)));(case aL=>have:=LMc8.out;omega);intro v692 w12 ho hb hg hat;rw[← Ny691.out] at ho;replace za:=aM (Kd.V_afterv (ok:=(fun k_=>((P0_ k_∨P1_ k_)∨w.heap.size≤k_))) (pV za.out) hg hat);replace zb:=aM (Kd.V_afterv (ok:=(fun k_=>((P0_ k_∨P1_ k_)∨w.heap.size≤k_))) (pV zb.out) hg hat);replace HB:=aM (hb);have HO693:=aM (ho);clear zq;clear ho hb hg hat))
  go_roundg k1
  case measure=>have:=HK1.out;omega
  case rel=>exact⟨(z1),H',⟨pO1 HK1⟩,⟨Kd.V_mono (Kd.R_V (pR HO693.out)) (fun k_ hk=>by first|exact⟨(.inr (hk.1)),hk.2⟩|exact(.inr (hk)))⟩,⟨by(with_reducible repeat(first|apply Kd.V_alloc|apply Kd.V_drewN|apply Kd.V_drew));exact Kd.V_mono zb.out (fun _ hk=>hk.1)⟩,⟨qB HB⟩⟩
 rw[iN c7] at H
 have zz:=dF c7
 have z0:decide (yb.length<l1.length)=false:=decide_eq_false (fun h=>c7 (Int.ofNat_lt.mpr h))
 clear c7
 have H':=aM H
 clear H
 obtain⟨z2,z3,yaf⟩:=Kd.V_slice za.out
 subst yaf
 go_wp2
 go_loopg [1] k1 (fun kq v1 w'=>∃ (yc:List Int),Aside0 (fat.l1 kq yb yc=some (r1,r2))∧Aside0 (kq≤k1)∧Aside0 (Kd.V (Kd.int .i64) 3 w' w.heap.size (fun k_=>((P0_ k_∨P1_ k_)∨w.heap.size≤k_)) (.slice z2 yb.length z3) yb)∧Aside0 (Kd.V (Kd.int .i64) 3 w' w.heap.size (fun k_=>((P0_ k_∨P1_ k_)∨w.heap.size≤k_)) v1 yc)∧Aside0 (Below w.heap.size w w'))
 case atStart=>exact⟨(l1),H',⟨Nat.le_refl _⟩,⟨pV za.out⟩,⟨pV zb.out⟩,⟨qB HB⟩⟩
 clear H'
 try clear zz
 try clear z0
 obtain⟨yc,HA,HK2,za,zb,HB⟩:=hrel
 cases gk with
 | zero=>exact absurd HA.out (by simp[fat.l1])
 | succ k2=>?_
 have H:=HA.out
 clear HA
 simp only[fat.l1] at H
 by_cases c14:(yc.length:Int)<(yb.length:Int)
 ·rw[ip c14] at H
  have zr:=dT c14
  have zs:decide (yc.length<yb.length)=true:=decide_eq_true (Int.ofNat_lt.mp c14)
  clear c14
  obtain⟨zh,zk⟩:∃ y_:List Int,y_=(([1]:List Int)):=⟨_,rfl⟩
  replace H:(if zh.length+yc.length<17592186044416 then(fat.l1 k2 yb (zh++yc))else(none))=some (r1,r2):=pH zk H
  have zt:=aM zk
  clear zk
  by_cases c15:zh.length+yc.length<17592186044416
  rotate_left
  ·rw[iN c15] at H
   cases H
  rw[ip c15] at H
  have LMc15:=aM c15
  clear c15
  obtain⟨z4,zl⟩:∃ y_:List Int,y_=(zh++yc):=⟨_,rfl⟩
  replace H:(fat.l1 k2 yb z4)=some (r1,r2):=pH zl H
  have Ny697:=aM zl
  clear zl
  have H':=aM H
  clear H
  obtain⟨Ao16,co16,yag⟩:=Kd.V_slice zb.out
  subst yag
  go_wp2_with (first|((with_reducible refine gD 33 rfl ?_);refine Kd.R_lit (Kd.int .i64) _ 3 ?hg (N:=33) ?hd (xs:=([1]:List Int)) (inner:=[.int .i64 1]) (ok:=fun _=>True) (okp:=fun _=>True) ?hr ?hp (fun _ hk=>hk) trivial (Below.refl _ _) (Nat.le_refl _) (by simp) ?_;(case hd=>rfl);(case hg=>rfl);(case hr=>first|(go_simp;done)|(go_simp;rfl));(case hp=>exact(Reps.one (show Kd.M (Kd.int .i64) _ _ _ 1 [.int .i64 1] from rfl) (Reps.none _ _)));intro v695 w17 ho18 hb hg_ hnew_;clear hg_ hnew_;(first|rw[← zt.out] at ho18|(simp only[Int.reduceToNat] at ho18;rw[← zt.out] at ho18));replace za:=aM (Kd.V_elder' (pV za.out) (Kd.R_base ho18) hb);replace zb:=aM (Kd.V_elder' (pV zb.out) (Kd.R_base ho18) hb);have zu:=aM (Kd.R_lower (Kd.R_newM (M:=fun k_=>(w.heap.size≤k_)) ho18 (below_size (qB HB)) (fun k_ h_=>h_)) (below_size (qB HB)));replace HB:=bS (qB HB) hb;clear hb ho18)|((with_reducible refine gate_builtin (b:=.append) (xs:=#[.tmp 33,.tmp 34]) rfl ?_);at_builtin;refine Kd.R_append_rows (Kd.int .i64) (w0:=w) w.heap.size rfl (.tmp 33) (.tmp 34) 22 3 (.int .i64 0) 8 rfl Try.underlying22 info3 rfl (by decide) (by omega) v695 zh yc _ _ _ (fun k_=>(w.heap.size≤k_)) (fun _=>False) rfl rfl ?aO ?aR (fun _ _ h=>h) (fun _ h=>h.elim) ?aF ?aB ?aS ?aL ?_;(case aR=>exact pC (Kd.V_reads' zb.out).2.2);(case aB=>exact(qB HB));(case aF=>exact(fun k_ hk=>(Nat.le_trans (below_size (qB HB)) hk)));(case aO=>exact(by(with_reducible repeat(first|apply rA|apply rN|apply rD));exact Kd.R_mono zu.out (fun _ hk=>hk.1)));(case aS=>exact(below_size (qB HB)));(case aL=>have:=LMc15.out;omega);intro v698 w19 ho hb hg hat;rw[← Ny697.out] at ho;replace za:=aM (Kd.V_afterv (ok:=(fun k_=>((P0_ k_∨P1_ k_)∨w.heap.size≤k_))) (pV za.out) hg hat);replace zb:=aM (Kd.V_afterv (ok:=(fun k_=>((P0_ k_∨P1_ k_)∨w.heap.size≤k_))) (pV zb.out) hg hat);replace HB:=aM (hb);have HO699:=aM (ho);clear zu;clear ho hb hg hat))
  go_roundg k2
  case measure=>have:=HK1.out;have:=HK2.out;omega
  case rel=>exact⟨(z4),H',⟨pO2 HK1 HK2⟩,⟨by(with_reducible repeat(first|apply Kd.V_alloc|apply Kd.V_drewN|apply Kd.V_drew));exact Kd.V_mono za.out (fun _ hk=>hk.1)⟩,⟨Kd.V_mono (Kd.R_V (pR HO699.out)) (fun k_ hk=>by first|exact⟨(.inr (hk.1)),hk.2⟩|exact(.inr (hk)))⟩,⟨qB HB⟩⟩
 rw[iN c14] at H
 have zr:=dF c14
 have zs:decide (yc.length<yb.length)=false:=decide_eq_false (fun h=>c14 (Int.ofNat_lt.mpr h))
 clear c14
 have H':=aM H
 clear H
 obtain⟨yah,yai,yaj⟩:=Kd.V_slice zb.out
 subst yaj
 go_wp2
 go_loopg [8,38] k2 (fun kq v8 v38 w'=>∃ (yh:List Int) (ya:Int),v38=.int .i64 ya∧Aside0 (fat.l2 kq yb yc yh (yb.length:Int) ya=some (r1,r2))∧Aside0 (kq≤k2)∧Aside0 (Kd.V (Kd.int .i64) 3 w' w.heap.size (fun k_=>((P0_ k_∨P1_ k_)∨w.heap.size≤k_)∧some k_≠(v8:Value).ownBlock) (.slice z2 yb.length z3) yb)∧Aside0 (Kd.V (Kd.int .i64) 3 w' w.heap.size (fun k_=>((P0_ k_∨P1_ k_)∨w.heap.size≤k_)∧some k_≠(v8:Value).ownBlock) (.slice yah yc.length yai) yc)∧Aside0 (Kd.R (Kd.int .i64) 3 w' w.heap.size (fun k_=>(w.heap.size≤k_)) v8 yh)∧Aside0 (Below w.heap.size w w'))
 case atStart=>exact⟨(([]:List Int)),(0),(pF),H',⟨Nat.le_refl _⟩,⟨by(with_reducible repeat(first|apply Kd.V_alloc|apply Kd.V_drewN|apply Kd.V_drew));exact Kd.V_mono za.out (fun _ hk=>⟨hk,(by simp[Value.ownBlock])⟩)⟩,⟨by(with_reducible repeat(first|apply Kd.V_alloc|apply Kd.V_drewN|apply Kd.V_drew));exact Kd.V_mono zb.out (fun _ hk=>⟨hk,(by simp[Value.ownBlock])⟩)⟩,⟨pN⟩,⟨qB HB⟩⟩
 clear H'
 try clear zr
 try clear zs
 obtain⟨yh,ya,rfl,HA,HK3,za,zb,zc,HB⟩:=hrel
 cases gk with
 | zero=>exact absurd HA.out (by simp[fat.l2])
 | succ k3=>?_
 have H:=HA.out
 clear HA
 simp only[fat.l2] at H
 by_cases c21:ya<(yb.length:Int)
 rotate_left
 ·rw[iN c21] at H
  have yy:=dF c21
  clear c21
  replace H:=oB H
  obtain⟨zf,z5,H⟩:=H
  try dsimp only at H
  have A44:=aM z5
  clear z5
  by_cases c45:zf=0
  rotate_left
  ·rw[iN c45] at H
   have yz:=bF c45
   have y0:=nT c45
   replace H:=oi2 H
   obtain⟨rfl,rfl⟩:=H
   obtain⟨yak,yal,yam⟩:=Kd.R_slice zc.out
   subst yam
   go_wp2_with (first|((with_reducible refine gC 30 rfl ?_);refine gL 78 Try.func30 #[.slice yak yh.length yal] ?_;(with_reducible refine(fag.calls k3 _ _ yh zf _ ?s1 ?s2 A44.out).mono ?_);(case s1=>exact sR zc);(case s2=>exact sL zc);rintro e w' ⟨rfl,⟨nd,rfl⟩⟩;refine⟨_,rfl,?_⟩))
   go_ret2
   exact⟨_,pE,pN,qB HB⟩
  rw[ip c45] at H
  have yz:=bT c45
  have y0:=nF c45
  clear c45
  replace H:=oi2 H
  obtain⟨rfl,rfl⟩:=H
  obtain⟨yan,yao,yap⟩:=Kd.R_slice zc.out
  subst yap
  go_wp2_with (first|((with_reducible refine gC 30 rfl ?_);refine gL 78 Try.func30 #[.slice yan yh.length yao] ?_;(with_reducible refine(fag.calls k3 _ _ yh zf _ ?s1 ?s2 A44.out).mono ?_);(case s1=>exact sR zc);(case s2=>exact sL zc);rintro e w' ⟨rfl,⟨nd,rfl⟩⟩;refine⟨_,rfl,?_⟩))
  go_ret2
  exact⟨_,pE,pR zc.out,qB HB⟩
 rw[ip c21] at H
 have yy:=dT c21
 clear c21
 by_cases c22:0≤ya
 rotate_left
 ·rw[iN c22] at H
  cases H
 rw[ip c22] at H
 have c22b0:=dT c22
 clear c22
 by_cases c23:ya<(yb.length:Int)
 rotate_left
 ·rw[iN c23] at H
  cases H
 rw[ip c23] at H
 have c23b0:=dT c23
 clear c23
 by_cases c24:ya<(yc.length:Int)
 rotate_left
 ·rw[iN c24] at H
  cases H
 rw[ip c24] at H
 have c24b0:=dT c24
 clear c24
 by_cases c25:(rd yb ya)=(rd yc ya)
 ·rw[ip c25] at H
  have y1:=bT c25
  have y2:=nF c25
  clear c25
  obtain⟨ji26,hji26⟩:∃ j_:Int,(mx (rd yb ya) (rd yc ya))=j_:=⟨_,rfl⟩
  replace H:(if yh.length<17592186044416 then(fat.l2 k3 yb yc (yh++[ji26]) (yb.length:Int) (wrap64 (ya+1)))else(none))=some (r1,r2):=by first|(rw[hji26] at H;exact H)|(simp only[hji26] at H ⊢;exact H)
  have hji26_:(if(rd yb ya)<(rd yc ya)then(rd yc ya)else(rd yb ya))=ji26:=hji26
  by_cases c27:yh.length<17592186044416
  rotate_left
  ·rw[iN c27] at H
   cases H
  rw[ip c27] at H
  have LMc27:=aM c27
  clear c27
  obtain⟨z6,zm⟩:∃ y_:List Int,y_=(yh++[ji26]):=⟨_,rfl⟩
  replace H:(fat.l2 k3 yb yc z6 (yb.length:Int) (wrap64 (ya+1)))=some (r1,r2):=pH zm H
  have Ny704:=aM zm
  clear zm
  have H':=aM H
  clear H
  try go_wp2
  replace za:=aM (Kd.V_drew za.out)
  replace zb:=aM (Kd.V_drew zb.out)
  replace zc:=aM (Kd.R_drew zc.out)
  replace HB:=aM (below_drew1 HB.out)
  obtain⟨yd,⟨⟩,ye,yt,yu⟩:=zI (Kd.V_reads' za.out).2.2 ya
  obtain⟨yg,⟨⟩,yf,yv,yw⟩:=zI (Kd.V_reads' zb.out).2.2 ya
  refine sT 23 [] (fun w'=>w'.cell? (yd.add (ya).toNat)=some (.int .i64 (rd yb ya))∧w'.cell? (yg.add (ya).toNat)=some (.int .i64 (rd yc ya))) fat.tab14 fat.bits14 ⟨ye,yf⟩ (fun hHeld HT_ HW_=>?_)
  generalize wr.drew=w28 at za zb zc HB ye yf hHeld ⊢
  refine pQ 0 41 23 1 HT_ ?_
  refine pQ 1 42 23 3 HT_ ?_
  refine pQ 2 43 23 7 HT_ ?_
  refine pQ 4 45 23 23 HT_ ?_
  refine pQ 5 46 23 55 HT_ ?_
  refine pQ 6 47 23 119 HT_ ?_
  refine pU2 3 44 23 127 HT_ HW_ hHeld ?_
  refine pU2 7 48 23 255 HT_ HW_ hHeld ?_
  refine pQ 8 49 23 511 HT_ ?_
  refine pQ 9 50 23 1023 HT_ ?_
  refine pX 10 51 23 2047 HT_ ?_
  refine pX 11 52 23 4095 HT_ ?_
  refine pX 12 53 23 8191 HT_ ?_
  refine pX 13 54 23 16383 HT_ ?_
  refine pX 14 55 23 32767 HT_ ?_
  refine pQ 15 56 23 65535 HT_ ?_
  refine pQ 16 57 23 131071 HT_ ?_
  refine pX 17 58 23 262143 HT_ ?_
  refine pX 18 59 23 524287 HT_ ?_
  refine pX 19 60 23 1048575 HT_ ?_
  refine pX 20 61 23 2097151 HT_ ?_
  refine pX 21 62 23 4194303 HT_ ?_
  refine pQ 22 63 23 8388607 HT_ ?_
  refine dN HT_ ?_
  try go_wp2
  replace za:=aM (Kd.V_drew za.out)
  replace zb:=aM (Kd.V_drew zb.out)
  replace zc:=aM (Kd.R_drew zc.out)
  replace HB:=aM (below_drew1 HB.out)
  obtain⟨y3,yaq,yl,p702,q702⟩:=zI (Kd.V_reads' za.out).2.2 ya
  obtain rfl:yd=y3:=(by injection yaq)
  obtain⟨y4,yar,ym,p703,q703⟩:=zI (Kd.V_reads' zb.out).2.2 ya
  obtain rfl:yg=y4:=(by injection yar)
  refine sT 13 [10,11] (fun w'=>w'.cell? (yd.add (ya).toNat)=some (.int .i64 (rd yb ya))∧w'.cell? (yg.add (ya).toNat)=some (.int .i64 (rd yc ya))) fat.tab16 fat.bits16 ⟨yl,ym⟩ (fun hHeld HT_ HW_=>?_)
  generalize w28.drew=w29 at za zb zc HB yl ym hHeld ⊢
  refine pQ 0 64 13 1 HT_ ?_
  refine pQ 1 65 13 3 HT_ ?_
  refine pQ 2 66 13 7 HT_ ?_
  refine pQ 3 67 13 15 HT_ ?_
  refine pQ 5 69 13 47 HT_ ?_
  refine pQ 6 70 13 111 HT_ ?_
  refine pQ 7 71 13 239 HT_ ?_
  refine pU2 4 68 13 255 HT_ HW_ hHeld ?_
  refine pU2 8 72 13 511 HT_ HW_ hHeld ?_
  refine pQ 9 73 13 1023 HT_ ?_
  refine last_ (i:=10) (N:=some 74) (bm 13 2047) rfl rfl (one_of HT_.out (by kernel_rfl)) (by decide) (fun K hK=>?_)
  refine value_ (w1:=?_) (v:=?_) (by rfl) rfl ?_ ?_
  rotate_left 2
  ·go_simp
   constructor
   ·rfl
   ·rfl
  refine hK.out _ _ ?_
  clear hK K
  refine nM 74 ?_
  refine last_ (i:=11) (N:=some 75) (bm 13 4095) rfl rfl (one_of HT_.out (by kernel_rfl)) (by decide) (fun K hK=>?_)
  refine Kd.R_append_step (Kd.int .i64) (w0:=w) w.heap.size (by rfl) (.tmp 64) (.tmp 74) 22 3 (.int .i64 0) 8 rfl Try.underlying22 info3 rfl (by decide) (by omega) u8 yh ji26 [.int .i64 ji26] (fun k_=>(w.heap.size≤k_)) (fun _=>False) rfl rfl ?aP (fun _ hk=>hk.elim) ?aF ?aO ?aB ?aS ?aL ?_
  (case aP=>exact rfl)
  (case aB=>exact(qB HB))
  (case aF=>exact(fun k_ hk=>(Nat.le_trans (below_size (qB HB)) hk)))
  (case aO=>exact(pR zc.out))
  (case aS=>exact(below_size (qB HB)))
  (case aL=>have:=LMc27.out;omega)
  intro v705 w30 ho hb hg hat
  rw[← Ny704.out] at ho
  replace za:=aM (Kd.V_afterv (ok:=(fun k_=>((P0_ k_∨P1_ k_)∨w.heap.size≤k_))) (pV za.out) hg hat)
  replace zb:=aM (Kd.V_afterv (ok:=(fun k_=>((P0_ k_∨P1_ k_)∨w.heap.size≤k_))) (pV zb.out) hg hat)
  replace HB:=aM (hb)
  have HO706:=aM (ho)
  clear zc
  clear ho hb hg hat
  refine hK.out _ _ ?_
  clear hK K
  refine nM 75 ?_
  refine pQ 12 8 13 8191 HT_ ?_
  refine dN HT_ ?_
  try go_wp2
  go_roundg k3
  case measure=>have:=HK1.out;have:=HK2.out;have:=HK3.out;omega
  case rel=>exact⟨(z6),(wrap64 (ya+1)),(pF),H',⟨by have:=HK1.out;have:=HK2.out;have:=HK3.out;omega⟩,⟨pV za.out⟩,⟨pV zb.out⟩,⟨pR HO706.out⟩,⟨qB HB⟩⟩
 rw[iN c25] at H
 have y1:=bF c25
 have y2:=nT c25
 by_cases c31:(rd yb ya)=1
 ·rw[ip c31] at H
  have y5:=bT c31
  have y6:=nF c31
  clear c31
  obtain⟨ji32,hji32⟩:∃ j_:Int,(mx (rd yb ya) (rd yc ya))=j_:=⟨_,rfl⟩
  replace H:(if yh.length<17592186044416 then(fat.l2 k3 yb yc (yh++[ji32]) (yb.length:Int) (wrap64 (ya+1)))else(none))=some (r1,r2):=by first|(rw[hji32] at H;exact H)|(simp only[hji32] at H ⊢;exact H)
  have hji32_:(if(rd yb ya)<(rd yc ya)then(rd yc ya)else(rd yb ya))=ji32:=hji32
  by_cases c33:yh.length<17592186044416
  rotate_left
  ·rw[iN c33] at H
   cases H
  rw[ip c33] at H
  have LMc33:=aM c33
  clear c33
  obtain⟨z7,zn⟩:∃ y_:List Int,y_=(yh++[ji32]):=⟨_,rfl⟩
  replace H:(fat.l2 k3 yb yc z7 (yb.length:Int) (wrap64 (ya+1)))=some (r1,r2):=pH zn H
  have Ny710:=aM zn
  clear zn
  have H':=aM H
  clear H
  try go_wp2
  replace za:=aM (Kd.V_drew za.out)
  replace zb:=aM (Kd.V_drew zb.out)
  replace zc:=aM (Kd.R_drew zc.out)
  replace HB:=aM (below_drew1 HB.out)
  obtain⟨yd,⟨⟩,ye,yt,yu⟩:=zI (Kd.V_reads' za.out).2.2 ya
  obtain⟨yg,⟨⟩,yf,yv,yw⟩:=zI (Kd.V_reads' zb.out).2.2 ya
  obtain⟨yk,yr,yi,y7,y8⟩:=zI (Kd.V_reads' za.out).2.2 ya
  obtain rfl:yd=yk:=(by injection yr)
  refine sT 23 [] (fun w'=>w'.cell? (yd.add (ya).toNat)=some (.int .i64 (rd yb ya))∧w'.cell? (yg.add (ya).toNat)=some (.int .i64 (rd yc ya))∧w'.cell? (yd.add (ya).toNat)=some (.int .i64 (rd yb ya))) fat.tab14 fat.bits14 ⟨ye,yf,yi⟩ (fun hHeld HT_ HW_=>?_)
  generalize wr.drew=w34 at za zb zc HB ye yf yi hHeld ⊢
  refine pQ 0 41 23 1 HT_ ?_
  refine pQ 1 42 23 3 HT_ ?_
  refine pQ 2 43 23 7 HT_ ?_
  refine pQ 4 45 23 23 HT_ ?_
  refine pQ 5 46 23 55 HT_ ?_
  refine pQ 6 47 23 119 HT_ ?_
  refine pU3 3 44 23 127 HT_ HW_ hHeld ?_
  refine pU3 7 48 23 255 HT_ HW_ hHeld ?_
  refine pQ 8 49 23 511 HT_ ?_
  refine pQ 9 50 23 1023 HT_ ?_
  refine pQ 10 51 23 2047 HT_ ?_
  refine pQ 11 52 23 4095 HT_ ?_
  refine pQ 12 53 23 8191 HT_ ?_
  refine pU3 13 54 23 16383 HT_ HW_ hHeld ?_
  refine pQ 14 55 23 32767 HT_ ?_
  refine pQ 15 56 23 65535 HT_ ?_
  refine pQ 16 57 23 131071 HT_ ?_
  refine pX 17 58 23 262143 HT_ ?_
  refine pX 18 59 23 524287 HT_ ?_
  refine pX 19 60 23 1048575 HT_ ?_
  refine pX 20 61 23 2097151 HT_ ?_
  refine pX 21 62 23 4194303 HT_ ?_
  refine pQ 22 63 23 8388607 HT_ ?_
  refine dN HT_ ?_
  try go_wp2
  replace za:=aM (Kd.V_drew za.out)
  replace zb:=aM (Kd.V_drew zb.out)
  replace zc:=aM (Kd.R_drew zc.out)
  replace HB:=aM (below_drew1 HB.out)
  obtain⟨y9,yas,yn,p708,q708⟩:=zI (Kd.V_reads' za.out).2.2 ya
  obtain rfl:yd=y9:=(by injection yas)
  obtain⟨yaa,yat,yo,p709,q709⟩:=zI (Kd.V_reads' zb.out).2.2 ya
  obtain rfl:yg=yaa:=(by injection yat)
  refine sT 13 [10,11] (fun w'=>w'.cell? (yd.add (ya).toNat)=some (.int .i64 (rd yb ya))∧w'.cell? (yg.add (ya).toNat)=some (.int .i64 (rd yc ya))) fat.tab16 fat.bits16 ⟨yn,yo⟩ (fun hHeld HT_ HW_=>?_)
  generalize w34.drew=w35 at za zb zc HB yn yo hHeld ⊢
  refine pQ 0 64 13 1 HT_ ?_
  refine pQ 1 65 13 3 HT_ ?_
  refine pQ 2 66 13 7 HT_ ?_
  refine pQ 3 67 13 15 HT_ ?_
  refine pQ 5 69 13 47 HT_ ?_
  refine pQ 6 70 13 111 HT_ ?_
  refine pQ 7 71 13 239 HT_ ?_
  refine pU2 4 68 13 255 HT_ HW_ hHeld ?_
  refine pU2 8 72 13 511 HT_ HW_ hHeld ?_
  refine pQ 9 73 13 1023 HT_ ?_
  refine last_ (i:=10) (N:=some 74) (bm 13 2047) rfl rfl (one_of HT_.out (by kernel_rfl)) (by decide) (fun K hK=>?_)
  refine value_ (w1:=?_) (v:=?_) (by rfl) rfl ?_ ?_
  rotate_left 2
  ·go_simp
   constructor
   ·rfl
   ·rfl
  refine hK.out _ _ ?_
  clear hK K
  refine nM 74 ?_
  refine last_ (i:=11) (N:=some 75) (bm 13 4095) rfl rfl (one_of HT_.out (by kernel_rfl)) (by decide) (fun K hK=>?_)
  refine Kd.R_append_step (Kd.int .i64) (w0:=w) w.heap.size (by rfl) (.tmp 64) (.tmp 74) 22 3 (.int .i64 0) 8 rfl Try.underlying22 info3 rfl (by decide) (by omega) u8 yh ji32 [.int .i64 ji32] (fun k_=>(w.heap.size≤k_)) (fun _=>False) rfl rfl ?aP (fun _ hk=>hk.elim) ?aF ?aO ?aB ?aS ?aL ?_
  (case aP=>exact rfl)
  (case aB=>exact(qB HB))
  (case aF=>exact(fun k_ hk=>(Nat.le_trans (below_size (qB HB)) hk)))
  (case aO=>exact(pR zc.out))
  (case aS=>exact(below_size (qB HB)))
  (case aL=>have:=LMc33.out;omega)
  intro v711 w36 ho hb hg hat
  rw[← Ny710.out] at ho
  replace za:=aM (Kd.V_afterv (ok:=(fun k_=>((P0_ k_∨P1_ k_)∨w.heap.size≤k_))) (pV za.out) hg hat)
  replace zb:=aM (Kd.V_afterv (ok:=(fun k_=>((P0_ k_∨P1_ k_)∨w.heap.size≤k_))) (pV zb.out) hg hat)
  replace HB:=aM (hb)
  have HO712:=aM (ho)
  clear zc
  clear ho hb hg hat
  refine hK.out _ _ ?_
  clear hK K
  refine nM 75 ?_
  refine pQ 12 8 13 8191 HT_ ?_
  refine dN HT_ ?_
  try go_wp2
  go_roundg k3
  case measure=>have:=HK1.out;have:=HK2.out;have:=HK3.out;omega
  case rel=>exact⟨(z7),(wrap64 (ya+1)),(pF),H',⟨by have:=HK1.out;have:=HK2.out;have:=HK3.out;omega⟩,⟨pV za.out⟩,⟨pV zb.out⟩,⟨pR HO712.out⟩,⟨qB HB⟩⟩
 rw[iN c31] at H
 have y5:=bF c31
 have y6:=nT c31
 by_cases c37:(rd yc ya)=1
 rotate_left
 ·rw[iN c37] at H
  have yab:=bF c37
  have yac:=nT c37
  replace H:=oi2 H
  obtain⟨rfl,rfl⟩:=H
  try go_wp2
  replace za:=aM (Kd.V_drew za.out)
  replace zb:=aM (Kd.V_drew zb.out)
  replace zc:=aM (Kd.R_drew zc.out)
  replace HB:=aM (below_drew1 HB.out)
  obtain⟨yd,⟨⟩,ye,yt,yu⟩:=zI (Kd.V_reads' za.out).2.2 ya
  obtain⟨yg,⟨⟩,yf,yv,yw⟩:=zI (Kd.V_reads' zb.out).2.2 ya
  obtain⟨yk,yr,yi,y7,y8⟩:=zI (Kd.V_reads' za.out).2.2 ya
  obtain rfl:yd=yk:=(by injection yr)
  obtain⟨ys,yx,yj,yau,yav⟩:=zI (Kd.V_reads' zb.out).2.2 ya
  obtain rfl:yg=ys:=(by injection yx)
  refine sT 23 [] (fun w'=>w'.cell? (yd.add (ya).toNat)=some (.int .i64 (rd yb ya))∧w'.cell? (yg.add (ya).toNat)=some (.int .i64 (rd yc ya))∧w'.cell? (yd.add (ya).toNat)=some (.int .i64 (rd yb ya))∧w'.cell? (yg.add (ya).toNat)=some (.int .i64 (rd yc ya))) fat.tab14 fat.bits14 ⟨ye,yf,yi,yj⟩ (fun hHeld HT_ HW_=>?_)
  generalize wr.drew=w43 at za zb zc HB ye yf yi yj hHeld ⊢
  refine pQ 0 41 23 1 HT_ ?_
  refine pQ 1 42 23 3 HT_ ?_
  refine pQ 2 43 23 7 HT_ ?_
  refine pQ 4 45 23 23 HT_ ?_
  refine pQ 5 46 23 55 HT_ ?_
  refine pQ 6 47 23 119 HT_ ?_
  refine pU4 3 44 23 127 HT_ HW_ hHeld ?_
  refine pU4 7 48 23 255 HT_ HW_ hHeld ?_
  refine pQ 8 49 23 511 HT_ ?_
  refine pQ 9 50 23 1023 HT_ ?_
  refine pQ 10 51 23 2047 HT_ ?_
  refine pQ 11 52 23 4095 HT_ ?_
  refine pQ 12 53 23 8191 HT_ ?_
  refine pU4 13 54 23 16383 HT_ HW_ hHeld ?_
  refine pQ 14 55 23 32767 HT_ ?_
  refine pQ 15 56 23 65535 HT_ ?_
  refine pQ 16 57 23 131071 HT_ ?_
  refine pQ 17 58 23 262143 HT_ ?_
  refine pQ 18 59 23 524287 HT_ ?_
  refine pQ 19 60 23 1048575 HT_ ?_
  refine pU4 20 61 23 2097151 HT_ HW_ hHeld ?_
  refine pQ 21 62 23 4194303 HT_ ?_
  refine pQ 22 63 23 8388607 HT_ ?_
  refine dN HT_ ?_
  try go_wp2
  go_ret2
  exact⟨_,pE,pN,qB HB⟩
 rw[ip c37] at H
 have yab:=bT c37
 have yac:=nF c37
 clear c37
 obtain⟨ji38,hji38⟩:∃ j_:Int,(mx (rd yb ya) (rd yc ya))=j_:=⟨_,rfl⟩
 replace H:(if yh.length<17592186044416 then(fat.l2 k3 yb yc (yh++[ji38]) (yb.length:Int) (wrap64 (ya+1)))else(none))=some (r1,r2):=by first|(rw[hji38] at H;exact H)|(simp only[hji38] at H ⊢;exact H)
 have hji38_:(if(rd yb ya)<(rd yc ya)then(rd yc ya)else(rd yb ya))=ji38:=hji38
 by_cases c39:yh.length<17592186044416
 rotate_left
 ·rw[iN c39] at H
  cases H
 rw[ip c39] at H
 have LMc39:=aM c39
 clear c39
 obtain⟨z8,zo⟩:∃ y_:List Int,y_=(yh++[ji38]):=⟨_,rfl⟩
 replace H:(fat.l2 k3 yb yc z8 (yb.length:Int) (wrap64 (ya+1)))=some (r1,r2):=pH zo H
 have Ny716:=aM zo
 clear zo
 have H':=aM H
 clear H
 try go_wp2
 replace za:=aM (Kd.V_drew za.out)
 replace zb:=aM (Kd.V_drew zb.out)
 replace zc:=aM (Kd.R_drew zc.out)
 replace HB:=aM (below_drew1 HB.out)
 obtain⟨yd,⟨⟩,ye,yt,yu⟩:=zI (Kd.V_reads' za.out).2.2 ya
 obtain⟨yg,⟨⟩,yf,yv,yw⟩:=zI (Kd.V_reads' zb.out).2.2 ya
 obtain⟨yk,yr,yi,y7,y8⟩:=zI (Kd.V_reads' za.out).2.2 ya
 obtain rfl:yd=yk:=(by injection yr)
 obtain⟨ys,yx,yj,yau,yav⟩:=zI (Kd.V_reads' zb.out).2.2 ya
 obtain rfl:yg=ys:=(by injection yx)
 refine sT 23 [] (fun w'=>w'.cell? (yd.add (ya).toNat)=some (.int .i64 (rd yb ya))∧w'.cell? (yg.add (ya).toNat)=some (.int .i64 (rd yc ya))∧w'.cell? (yd.add (ya).toNat)=some (.int .i64 (rd yb ya))∧w'.cell? (yg.add (ya).toNat)=some (.int .i64 (rd yc ya))) fat.tab14 fat.bits14 ⟨ye,yf,yi,yj⟩ (fun hHeld HT_ HW_=>?_)
 generalize wr.drew=w40 at za zb zc HB ye yf yi yj hHeld ⊢
 refine pQ 0 41 23 1 HT_ ?_
 refine pQ 1 42 23 3 HT_ ?_
 refine pQ 2 43 23 7 HT_ ?_
 refine pQ 4 45 23 23 HT_ ?_
 refine pQ 5 46 23 55 HT_ ?_
 refine pQ 6 47 23 119 HT_ ?_
 refine pU4 3 44 23 127 HT_ HW_ hHeld ?_
 refine pU4 7 48 23 255 HT_ HW_ hHeld ?_
 refine pQ 8 49 23 511 HT_ ?_
 refine pQ 9 50 23 1023 HT_ ?_
 refine pQ 10 51 23 2047 HT_ ?_
 refine pQ 11 52 23 4095 HT_ ?_
 refine pQ 12 53 23 8191 HT_ ?_
 refine pU4 13 54 23 16383 HT_ HW_ hHeld ?_
 refine pQ 14 55 23 32767 HT_ ?_
 refine pQ 15 56 23 65535 HT_ ?_
 refine pQ 16 57 23 131071 HT_ ?_
 refine pQ 17 58 23 262143 HT_ ?_
 refine pQ 18 59 23 524287 HT_ ?_
 refine pQ 19 60 23 1048575 HT_ ?_
 refine pU4 20 61 23 2097151 HT_ HW_ hHeld ?_
 refine pQ 21 62 23 4194303 HT_ ?_
 refine pQ 22 63 23 8388607 HT_ ?_
 refine dN HT_ ?_
 try go_wp2
 replace za:=aM (Kd.V_drew za.out)
 replace zb:=aM (Kd.V_drew zb.out)
 replace zc:=aM (Kd.R_drew zc.out)
 replace HB:=aM (below_drew1 HB.out)
 obtain⟨yad,yaw,yp,p714,q714⟩:=zI (Kd.V_reads' za.out).2.2 ya
 obtain rfl:yd=yad:=(by injection yaw)
 obtain⟨yae,yax,yq,p715,q715⟩:=zI (Kd.V_reads' zb.out).2.2 ya
 obtain rfl:yg=yae:=(by injection yax)
 refine sT 13 [10,11] (fun w'=>w'.cell? (yd.add (ya).toNat)=some (.int .i64 (rd yb ya))∧w'.cell? (yg.add (ya).toNat)=some (.int .i64 (rd yc ya))) fat.tab16 fat.bits16 ⟨yp,yq⟩ (fun hHeld HT_ HW_=>?_)
 generalize w40.drew=w41 at za zb zc HB yp yq hHeld ⊢
 refine pQ 0 64 13 1 HT_ ?_
 refine pQ 1 65 13 3 HT_ ?_
 refine pQ 2 66 13 7 HT_ ?_
 refine pQ 3 67 13 15 HT_ ?_
 refine pQ 5 69 13 47 HT_ ?_
 refine pQ 6 70 13 111 HT_ ?_
 refine pQ 7 71 13 239 HT_ ?_
 refine pU2 4 68 13 255 HT_ HW_ hHeld ?_
 refine pU2 8 72 13 511 HT_ HW_ hHeld ?_
 refine pQ 9 73 13 1023 HT_ ?_
 refine last_ (i:=10) (N:=some 74) (bm 13 2047) rfl rfl (one_of HT_.out (by kernel_rfl)) (by decide) (fun K hK=>?_)
 refine value_ (w1:=?_) (v:=?_) (by rfl) rfl ?_ ?_
 rotate_left 2
 ·go_simp
  constructor
  ·rfl
  ·rfl
 refine hK.out _ _ ?_
 clear hK K
 refine nM 74 ?_
 refine last_ (i:=11) (N:=some 75) (bm 13 4095) rfl rfl (one_of HT_.out (by kernel_rfl)) (by decide) (fun K hK=>?_)
 refine Kd.R_append_step (Kd.int .i64) (w0:=w) w.heap.size (by rfl) (.tmp 64) (.tmp 74) 22 3 (.int .i64 0) 8 rfl Try.underlying22 info3 rfl (by decide) (by omega) u8 yh ji38 [.int .i64 ji38] (fun k_=>(w.heap.size≤k_)) (fun _=>False) rfl rfl ?aP (fun _ hk=>hk.elim) ?aF ?aO ?aB ?aS ?aL ?_
 (case aP=>exact rfl)
 (case aB=>exact(qB HB))
 (case aF=>exact(fun k_ hk=>(Nat.le_trans (below_size (qB HB)) hk)))
 (case aO=>exact(pR zc.out))
 (case aS=>exact(below_size (qB HB)))
 (case aL=>have:=LMc39.out;omega)
 intro v717 w42 ho hb hg hat
 rw[← Ny716.out] at ho
 replace za:=aM (Kd.V_afterv (ok:=(fun k_=>((P0_ k_∨P1_ k_)∨w.heap.size≤k_))) (pV za.out) hg hat)
 replace zb:=aM (Kd.V_afterv (ok:=(fun k_=>((P0_ k_∨P1_ k_)∨w.heap.size≤k_))) (pV zb.out) hg hat)
 replace HB:=aM (hb)
 have HO718:=aM (ho)
 clear zc
 clear ho hb hg hat
 refine hK.out _ _ ?_
 clear hK K
 refine nM 75 ?_
 refine pQ 12 8 13 8191 HT_ ?_
 refine dN HT_ ?_
 try go_wp2
 go_roundg k3
 case measure=>have:=HK1.out;have:=HK2.out;have:=HK3.out;omega
 case rel=>exact⟨(z8),(wrap64 (ya+1)),(pF),H',⟨by have:=HK1.out;have:=HK2.out;have:=HK3.out;omega⟩,⟨pV za.out⟩,⟨pV zb.out⟩,⟨pR HO718.out⟩,⟨qB HB⟩⟩
def fap.l0:Nat→List (List Int)→List Int→Int→Int→Option (List Int×Int)
 | 0,_,_,_,_=>none
 | k+1,x0,x4,x9,x10=>if x10<x9 then(if 0≤x10 then(if x10<(x0.length:Int)then((fat.f k x4 (rd_L1 x0 x10)).bind fun bt1033=>(if bt1033.2=0 then(fap.l0 k x0 bt1033.1 x9 (wrap64 (x10+1)))else(some (([]:List Int),bt1033.2))))else(none))else(none))else(some (x4,0))
def fap.f (k:Nat) (l0:List (List Int)):Option (List Int×Int):=fap.l0 k l0 ([]:List Int) (l0.length:Int) 0
theorem fap.calls (k:Nat)(A0:Option Addr)(c0:Nat)(l0:List (List Int))(r1:List Int)(r2:Int)(w:World)(hr0:Kd.C (Kd.slice 3 (Kd.int .i64)) w A0 l0.length l0)(hc0:l0.length≤c0)(h:fap.f k l0=some (r1,r2)) :
  Calls Try.prog 58 #[.slice A0 l0.length c0] w fun e w'=>∃ v0_:Value,e=.returned (.tuple #[v0_,.int .i64 r2])∧Kd.R (Kd.int .i64) 3 w' w.heap.size (fun _=>True) v0_ r1∧Below w.heap.size w w':=by
 have HR0:=aM hr0
 have HC0:=aM hc0
 clear hr0 hc0
 have HB:=aM (Below.refl w.heap.size w)
 have H:(fap.l0 k l0 ([]:List Int) (l0.length:Int) 0)=some (r1,r2):=h
 clear h
 have H':=aM H
 clear H
 go_enter Try.func58,Try.ntmps58
 go_wp2
 go_loopg [4,10] k (fun kq v4 v10 w'=>∃ (ye:List Int) (ya:Int),v10=.int .i64 ya∧Aside0 (fap.l0 kq l0 ye (l0.length:Int) ya=some (r1,r2))∧Aside0 (kq≤k)∧Aside0 (Kd.R (Kd.int .i64) 3 w' w.heap.size (fun _=>True) v4 ye)∧Aside0 (Below w.heap.size w w'))
 case atStart=>exact⟨(([]:List Int)),(0),(pF),H',⟨Nat.le_refl _⟩,⟨pN⟩,⟨qB HB⟩⟩
 clear H'
 obtain⟨ye,ya,rfl,HA,HK1,za,HB⟩:=hrel
 cases gk with
 | zero=>exact absurd HA.out (by simp[fap.l0])
 | succ k1=>?_
 have H:=HA.out
 clear HA
 simp only[fap.l0] at H
 by_cases c2:ya<(l0.length:Int)
 rotate_left
 ·rw[iN c2] at H
  have yl:=dF c2
  clear c2
  replace H:=oi2 H
  obtain⟨rfl,rfl⟩:=H
  go_wp2
  go_ret2
  exact⟨_,pE,pR za.out,qB HB⟩
 rw[ip c2] at H
 have yl:=dT c2
 clear c2
 by_cases c3:0≤ya
 rotate_left
 ·rw[iN c3] at H
  cases H
 rw[ip c3] at H
 have c3b0:=dT c3
 clear c3
 by_cases c4:ya<(l0.length:Int)
 rotate_left
 ·rw[iN c4] at H
  cases H
 rw[ip c4] at H
 have c4b0:=dT c4
 clear c4
 replace H:=oB H
 obtain⟨⟨ze,zb⟩,A50,H⟩:=H
 try dsimp only at H
 have A5:=aM A50
 clear A50
 by_cases c6:zb=0
 rotate_left
 ·rw[iN c6] at H
  have ym:=bF c6
  have yn:=nT c6
  replace H:=oi2 H
  obtain⟨rfl,rfl⟩:=H
  have yh:0≤(ya:Int):=oD
  have yi:ya<(l0.length:Int):=oD
  obtain⟨yk,yf,yg,yj,yb,yc,yd⟩:=at_L1 HR0.out ya yh yi
  cases yj
  replace yb:=zW HB yb
  have zc:=aM yd
  have zd:=aM yc
  clear yd yc
  obtain⟨Ao9,co9,eo9⟩:=Kd.R_slice za.out
  subst eo9
  go_wp2_with (first|((with_reducible refine gC 79 rfl ?_);refine gL 19 Try.func79 #[.slice Ao9 ye.length co9,.slice yf (rd_L1 l0 ya).length yg] ?_;(with_reducible refine(fat.calls k1 (fun k_=>some k_=(.slice Ao9 ye.length co9:Value).ownBlock) _ _ ye (fun k_=>k_<w.heap.size) _ _ (rd_L1 l0 ya) ze zb _ ?s1 ?s2 A5.out).mono ?_);(case s1=>exact Kd.R_V (Kd.R_tight rfl (za.out)));(case s2=>exact Kd.V_mk zd.out (Kd.F_below (Kd.C_F (Kd.heap_int .i64) zc.out) (qB HB)));rintro e w10 ⟨v1034,rfl,ho0,hb⟩;refine⟨_,rfl,?_⟩;have zf:=aM (Kd.R_lower (Kd.R_new' (Kd.R_mono (ok':=fun k_=>True) ho0 (fun _ hk_=>trivial)) (Kd.R_lt (pR za.out))) (below_size (qB HB)));replace za:=eR za ho0 hb;replace HB:=bS (qB HB) hb))
  go_ret2
  exact⟨_,pE,pN,qB HB⟩
 rw[ip c6] at H
 have ym:=bT c6
 have yn:=nF c6
 clear c6
 have H':=aM H
 clear H
 have yh:0≤(ya:Int):=oD
 have yi:ya<(l0.length:Int):=oD
 obtain⟨yk,yf,yg,yj,yb,yc,yd⟩:=at_L1 HR0.out ya yh yi
 cases yj
 replace yb:=zW HB yb
 have zc:=aM yd
 have zd:=aM yc
 clear yd yc
 obtain⟨Ao7,co7,eo7⟩:=Kd.R_slice za.out
 subst eo7
 go_wp2_with (first|((with_reducible refine gC 79 rfl ?_);refine gL 19 Try.func79 #[.slice Ao7 ye.length co7,.slice yf (rd_L1 l0 ya).length yg] ?_;(with_reducible refine(fat.calls k1 (fun k_=>some k_=(.slice Ao7 ye.length co7:Value).ownBlock) _ _ ye (fun k_=>k_<w.heap.size) _ _ (rd_L1 l0 ya) ze zb _ ?s1 ?s2 A5.out).mono ?_);(case s1=>exact Kd.R_V (Kd.R_tight rfl (za.out)));(case s2=>exact Kd.V_mk zd.out (Kd.F_below (Kd.C_F (Kd.heap_int .i64) zc.out) (qB HB)));rintro e w8 ⟨v1034,rfl,ho0,hb⟩;refine⟨_,rfl,?_⟩;have zf:=aM (Kd.R_lower (Kd.R_new' (Kd.R_mono (ok':=fun k_=>True) ho0 (fun _ hk_=>trivial)) (Kd.R_lt (pR za.out))) (below_size (qB HB)));replace za:=eR za ho0 hb;replace HB:=bS (qB HB) hb))
 go_roundg k1
 case measure=>have:=HK1.out;omega
 case rel=>exact⟨(ze),(wrap64 (ya+1)),(pF),H',⟨pO1 HK1⟩,⟨by(with_reducible repeat(first|apply rA|apply rN|apply rD));exact Kd.R_mono zf.out (fun _ hk=>trivial)⟩,⟨qB HB⟩⟩
def faj.l0:Nat→List Int→Int→Int→Int→Option (Bool)
 | 0,_,_,_,_=>none
 | k+1,x0,x1,x7,x8=>if x8<x7 then(if 0≤x8 then(if x8<(x0.length:Int)then(if(rd x0 x8)=x1 then(some true)else(faj.l0 k x0 x1 x7 (wrap64 (x8+1))))else(none))else(none))else(some false)
def faj.f (k:Nat) (l0:List Int)(a1:Int):Option (Bool):=faj.l0 k l0 a1 (l0.length:Int) 0
theorem faj.calls (k:Nat)(A0:Option Addr)(c0:Nat)(l0:List Int)(a1:Int)(r:Bool)(w:World)(hr0:Kd.C (Kd.int .i64) w A0 l0.length l0)(hc0:l0.length≤c0)(h:faj.f k l0 a1=some r) :
  Calls Try.prog 98 #[.slice A0 l0.length c0,.int .i64 a1] w fun e w'=>e=.returned (.bool r)∧Drawn0 w w':=by
 have HR0:=aM hr0
 have HC0:=aM hc0
 clear hr0 hc0
 have H:(faj.l0 k l0 a1 (l0.length:Int) 0)=some r:=h
 clear h
 have H':=aM H
 clear H
 go_enter Try.func98,Try.ntmps98
 go_wp2
 go_loopg [8] k (fun kq v8 w'=>∃ (ya:Int),v8=.int .i64 ya∧Aside0 (faj.l0 kq l0 a1 (l0.length:Int) ya=some r)∧Aside0 (kq≤k)∧Drawn0 w w')
 case atStart=>exact⟨(0),(pF),H',⟨Nat.le_refl _⟩,pW⟩
 clear H'
 obtain⟨ya,rfl,HA,HK1,⟨m1,rfl⟩⟩:=hrel
 cases gk with
 | zero=>exact absurd HA.out (by simp[faj.l0])
 | succ k1=>?_
 have H:=HA.out
 clear HA
 simp only[faj.l0] at H
 by_cases c3:ya<(l0.length:Int)
 rotate_left
 ·rw[iN c3] at H
  have yd:=dF c3
  clear c3
  obtain rfl:=Option.some.inj H
  go_wp2
  go_ret
  exact⟨pF,pW⟩
 rw[ip c3] at H
 have yd:=dT c3
 clear c3
 by_cases c4:0≤ya
 rotate_left
 ·rw[iN c4] at H
  cases H
 rw[ip c4] at H
 have c4b0:=dT c4
 clear c4
 by_cases c5:ya<(l0.length:Int)
 rotate_left
 ·rw[iN c5] at H
  cases H
 rw[ip c5] at H
 have c5b0:=dT c5
 clear c5
 by_cases c6:(rd l0 ya)=a1
 ·rw[ip c6] at H
  have ye:=bT c6
  have yf:=nF c6
  clear c6
  obtain rfl:=Option.some.inj H
  obtain⟨yc,⟨⟩,yb,yg,yh⟩:=zI HR0.out ya
  go_wp2
  go_ret
  exact⟨pF,pW⟩
 rw[iN c6] at H
 have ye:=bF c6
 have yf:=nT c6
 have H':=aM H
 clear H
 obtain⟨yc,⟨⟩,yb,yg,yh⟩:=zI HR0.out ya
 go_wp2
 go_roundg k1
 case measure=>have:=HK1.out;omega
 case rel=>exact⟨(wrap64 (ya+1)),(pF),H',⟨pO1 HK1⟩,pW⟩
mutual
def faf.j0:Nat→Int→List Int→Bool→Option (List Bool×Int)
 | 0,_,_,_=>none
 | k+1,x0,x1,x14=>if x14=true then(some (([]:List Bool),9))else(faf.l0 k x0 x1 (x1.length:Int) 0)
def faf.l0:Nat→Int→List Int→Int→Int→Option (List Bool×Int)
 | 0,_,_,_,_=>none
 | k+1,x0,x1,x16,x17=>if x17<x16 then(if 0≤x17 then(if x17<(x1.length:Int)then(if(rd x1 x17)<0 then(some (([]:List Bool),10))else(if(rd x1 x17) ≥ x0 then(some (([]:List Bool),10))else(if x17≤(x1.length:Int)then((faj.f k (x1.take (x17:Int).toNat) (rd x1 x17)).bind fun zl=>(if zl=true then(some (([]:List Bool),10))else(faf.l0 k x0 x1 x16 (wrap64 (x17+1)))))else(none))))else(none))else(none))else(faf.l1 k x1 ([]:List Bool) x0 0)
def faf.l1:Nat→List Int→List Bool→Int→Int→Option (List Bool×Int)
 | 0,_,_,_,_=>none
 | k+1,x1,x7,x44,x45=>if x45<x44 then(if(x1.length:Int)=0 then(if x7.length<140737488355328 then(faf.l1 k x1 (x7++[true]) x44 (wrap64 (x45+1)))else(none))else((faj.f k x1 x45).bind fun zb=>(if x7.length<140737488355328 then(faf.l1 k x1 (x7++[zb]) x44 (wrap64 (x45+1)))else(none))))else(some (x7,0))
end
def faf.f (k:Nat) (a0:Int)(l1:List Int):Option (List Bool×Int):=if a0<0 then(faf.j0 k a0 l1 true)else(faf.j0 k a0 l1 (decide (a0 > 6)))
theorem faf.calls (k:Nat) (a0:Int)(A1:Option Addr)(c1:Nat)(l1:List Int)(r1:List Bool) (r2:Int)(w:World)(hr1:Kd.C (Kd.int .i64) w A1 l1.length l1)(hc1:l1.length≤c1)(h:faf.f k a0 l1=some (r1,r2)) :
  Calls Try.prog 93 #[.int .i64 a0,.slice A1 l1.length c1] w fun e w'=>∃ v0_:Value,e=.returned (.tuple #[v0_,.int .i64 r2])∧Kd.R Kd.bool 4 w' w.heap.size (fun _=>True) v0_ r1∧Below w.heap.size w w':=by
 have HR1:=aM hr1
 have HC1:=aM hc1
 clear hr1 hc1
 have HB:=aM (Below.refl w.heap.size w)
 have H:(if a0<0 then(faf.j0 k a0 l1 true)else(faf.j0 k a0 l1 (decide (a0 > 6))))=some (r1,r2):=h
 clear h
 have HC3:=aM H
 clear H
 go_enter Try.func93,Try.ntmps93
 go_upto_region 1 with(fail)
 repeat(go_quiet (fail);go_upto_region 1 with(fail))
 go_cut [14] (fun v14 wc=>∃ (kq:Nat) (yi:Bool),v14=.bool yi∧Aside0 (faf.j0 kq a0 l1 yi=some (r1,r2))∧Aside0 (kq≤k)∧Aside0 (Below w.heap.size w wc))
 case first =>
  have H:=HC3.out
  clear HC3
  by_cases c4:a0<0
  ·rw[ip c4] at H
   have zc:=dT c4
   clear c4
   (first|rw[zc]|(simp only[i64_w,i32_w];rw[zc])|skip)
   have H':=aM H
   clear H
   go_wp2
   repeat(go_quiet (fail);try go_wp2)
   go_meet
   case rel=>exact⟨_,(true),(pF),H',⟨pO⟩,⟨qB HB⟩⟩
  rw[iN c4] at H
  have zc:=dF c4
  clear c4
  (first|rw[zc]|(simp only[i64_w,i32_w];rw[zc])|skip)
  have H':=aM H
  clear H
  go_wp2
  repeat(go_quiet (fail);try go_wp2)
  go_meet
  case rel=>exact⟨_,(decide (a0 > 6)),(pF),H',⟨pO⟩,⟨qB HB⟩⟩
 clear HC3
 try clear c1
 obtain⟨kq,yi,rfl,HA,HJ2,HB⟩:=hcut
 cases kq with
 | zero=>exact absurd HA.out (by simp[faf.j0])
 | succ kj2=>?_
 have H:=HA.out
 clear HA
 simp only[faf.j0] at H
 by_cases c5:yi=true
 ·subst c5
  rw[ip rfl] at H
  replace H:=oi2 H
  obtain⟨rfl,rfl⟩:=H
  go_wp2
  repeat(go_quiet (fail);try go_wp2)
  go_ret2
  exact⟨_,pE,pN,qB HB⟩
 replace c5:=Bool.eq_false_iff.mpr c5
 subst c5
 rw[iN fT] at H
 have H':=aM H
 clear H
 go_wp2
 repeat(go_quiet (fail);try go_wp2)
 go_loopg [17] kj2 (fun kq v17 w'=>∃ (ya:Int),v17=.int .i64 ya∧Aside0 (faf.l0 kq a0 l1 (l1.length:Int) ya=some (r1,r2))∧Aside0 (kq≤kj2)∧Aside0 (Below w.heap.size w w'))
 case atStart=>exact⟨(0),(pF),H',⟨Nat.le_refl _⟩,⟨qB HB⟩⟩
 clear H'
 try clear c5
 obtain⟨ya,rfl,HA,HK2,HB⟩:=hrel
 cases gk with
 | zero=>exact absurd HA.out (by simp[faf.l0])
 | succ k2=>?_
 have H:=HA.out
 clear HA
 simp only[faf.l0] at H
 by_cases c6:ya<(l1.length:Int)
 rotate_left
 ·rw[iN c6] at H
  have zm:=dF c6
  clear c6
  have H':=aM H
  clear H
  go_wp2
  repeat(go_quiet (fail);try go_wp2)
  go_loopg [7,45] k2 (fun kq v7 v45 w'=>∃ (yg:List Bool) (yd:Int),v45=.int .i64 yd∧Aside0 (faf.l1 kq l1 yg a0 yd=some (r1,r2))∧Aside0 (kq≤k2)∧Aside0 (Kd.R Kd.bool 4 w' w.heap.size (fun _=>True) v7 yg)∧Aside0 (Below w.heap.size w w'))
  case atStart=>exact⟨(([]:List Bool)),(0),(pF),H',⟨Nat.le_refl _⟩,⟨pN⟩,⟨qB HB⟩⟩
  clear H'
  try clear zm
  obtain⟨yg,yd,rfl,HA,HK3,za,HB⟩:=hrel
  cases gk with
  | zero=>exact absurd HA.out (by simp[faf.l1])
  | succ k3=>?_
  have H:=HA.out
  clear HA
  simp only[faf.l1] at H
  by_cases c17:yd<a0
  rotate_left
  ·rw[iN c17] at H
   have yq:=dF c17
   clear c17
   replace H:=oi2 H
   obtain⟨rfl,rfl⟩:=H
   go_wp2
   repeat(go_quiet (fail);try go_wp2)
   go_ret2
   exact⟨_,pE,pR za.out,qB HB⟩
  rw[ip c17] at H
  have yq:=dT c17
  clear c17
  by_cases c18:(l1.length:Int)=0
  ·rw[ip c18] at H
   have yr:=bT c18
   have ys:=nF c18
   clear c18
   by_cases c19:yg.length<140737488355328
   rotate_left
   ·rw[iN c19] at H
    cases H
   rw[ip c19] at H
   have zd:=aM c19
   clear c19
   obtain⟨zn,ze⟩:∃ y_:List Bool,y_=(yg++[true]):=⟨_,rfl⟩
   replace H:(faf.l1 k3 l1 zn a0 (wrap64 (yd+1)))=some (r1,r2):=pH ze H
   have zf:=aM ze
   clear ze
   have H':=aM H
   clear H
   go_wp2_with (first|((with_reducible refine gate_builtin (b:=.append) (xs:=#[.tmp 48,.tmp 57]) rfl ?_);at_builtin;refine Kd.R_append Kd.bool (w0:=w) w.heap.size rfl (.tmp 48) (.tmp 57) 93 4 (.bool false) 1 rfl Try.underlying93 info4 rfl (by decide) (by omega) u7 yg true [.bool true] (fun _=>True) (fun _=>False) rfl rfl ?aP (fun _ hk=>hk.elim) ?aF ?aO ?aB ?aS ?aL ?_;(case aP=>exact rfl);(case aB=>exact(qB HB));(case aF=>exact(fun _ _=>trivial));(case aO=>exact(pR za.out));(case aS=>exact(below_size (qB HB)));(case aL=>have:=zd.out;omega);intro zo w20 ho hb hg hat;rw[← zf.out] at ho;replace HB:=aM (hb);have zg:=aM (ho);clear za;clear ho hb hg hat))
   repeat(go_quiet (first|((with_reducible refine gate_builtin (b:=.append) (xs:=#[.tmp 48,.tmp 57]) rfl ?_);at_builtin;refine Kd.R_append Kd.bool (w0:=w) w.heap.size rfl (.tmp 48) (.tmp 57) 93 4 (.bool false) 1 rfl Try.underlying93 info4 rfl (by decide) (by omega) u7 yg true [.bool true] (fun _=>True) (fun _=>False) rfl rfl ?aP (fun _ hk=>hk.elim) ?aF ?aO ?aB ?aS ?aL ?_;(case aP=>exact rfl);(case aB=>exact(qB HB));(case aF=>exact(fun _ _=>trivial));(case aO=>exact(pR za.out));(case aS=>exact(below_size (qB HB)));(case aL=>have:=zd.out;omega);intro zo w20 ho hb hg hat;rw[← zf.out] at ho;replace HB:=aM (hb);have zg:=aM (ho);clear za;clear ho hb hg hat));try go_wp2_with (first|((with_reducible refine gate_builtin (b:=.append) (xs:=#[.tmp 48,.tmp 57]) rfl ?_);at_builtin;refine Kd.R_append Kd.bool (w0:=w) w.heap.size rfl (.tmp 48) (.tmp 57) 93 4 (.bool false) 1 rfl Try.underlying93 info4 rfl (by decide) (by omega) u7 yg true [.bool true] (fun _=>True) (fun _=>False) rfl rfl ?aP (fun _ hk=>hk.elim) ?aF ?aO ?aB ?aS ?aL ?_;(case aP=>exact rfl);(case aB=>exact(qB HB));(case aF=>exact(fun _ _=>trivial));(case aO=>exact(pR za.out));(case aS=>exact(below_size (qB HB)));(case aL=>have:=zd.out;omega);intro zo w20 ho hb hg hat;rw[← zf.out] at ho;replace HB:=aM (hb);have zg:=aM (ho);clear za;clear ho hb hg hat)))
   go_roundg k3
   case measure=>have:=HJ2.out;have:=HK2.out;have:=HK3.out;omega
   case rel=>exact⟨(zn),(wrap64 (yd+1)),(pF),H',⟨by have:=HJ2.out;have:=HK2.out;have:=HK3.out;omega⟩,⟨pR zg.out⟩,⟨qB HB⟩⟩
  rw[iN c18] at H
  have yr:=bF c18
  have ys:=nT c18
  have c18b2:¬ (l1=[]):=fun h_=>c18 (by rw[h_];rfl)
  replace H:=oB H
  obtain⟨zb,zp,H⟩:=H
  try dsimp only at H
  have A21:=aM zp
  clear zp
  by_cases c22:yg.length<140737488355328
  rotate_left
  ·rw[iN c22] at H
   cases H
  rw[ip c22] at H
  have zh:=aM c22
  clear c22
  obtain⟨zq,zi⟩:∃ y_:List Bool,y_=(yg++[zb]):=⟨_,rfl⟩
  replace H:(faf.l1 k3 l1 zq a0 (wrap64 (yd+1)))=some (r1,r2):=pH zi H
  have zj:=aM zi
  clear zi
  have H':=aM H
  clear H
  go_wp2_with (first|(go_at_call 98;(with_reducible refine(faj.calls k3 _ _ l1 yd zb _ ?s1 HC1.out A21.out).mono ?_);(case s1=>exact sC HR1 HB);rintro e w' ⟨rfl,⟨nd,rfl⟩⟩;(try first|exact⟨rfl,_,World.drewN_drewN _ _ _⟩|exact⟨rfl,_,Eq.trans (World.drewN_drewN _ _ _) (congrArg (World.drewN _) (Nat.add_assoc _ _ _))⟩))|((with_reducible refine gate_builtin (b:=.append) (xs:=#[.tmp 48,.tmp 57]) rfl ?_);at_builtin;refine Kd.R_append Kd.bool (w0:=w) w.heap.size rfl (.tmp 48) (.tmp 57) 93 4 (.bool false) 1 rfl Try.underlying93 info4 rfl (by decide) (by omega) u7 yg zb [.bool zb] (fun _=>True) (fun _=>False) rfl rfl ?aP (fun _ hk=>hk.elim) ?aF ?aO ?aB ?aS ?aL ?_;(case aP=>exact rfl);(case aB=>exact(qB HB));(case aF=>exact(fun _ _=>trivial));(case aO=>exact(pR za.out));(case aS=>exact(below_size (qB HB)));(case aL=>have:=zh.out;omega);intro zr w23 ho hb hg hat;rw[← zj.out] at ho;replace HB:=aM (hb);have zk:=aM (ho);clear za;clear ho hb hg hat))
  repeat(go_quiet (first|(go_at_call 98;(with_reducible refine(faj.calls k3 _ _ l1 yd zb _ ?s1 HC1.out A21.out).mono ?_);(case s1=>exact sC HR1 HB);rintro e w' ⟨rfl,⟨nd,rfl⟩⟩;(try first|exact⟨rfl,_,World.drewN_drewN _ _ _⟩|exact⟨rfl,_,Eq.trans (World.drewN_drewN _ _ _) (congrArg (World.drewN _) (Nat.add_assoc _ _ _))⟩))|((with_reducible refine gate_builtin (b:=.append) (xs:=#[.tmp 48,.tmp 57]) rfl ?_);at_builtin;refine Kd.R_append Kd.bool (w0:=w) w.heap.size rfl (.tmp 48) (.tmp 57) 93 4 (.bool false) 1 rfl Try.underlying93 info4 rfl (by decide) (by omega) u7 yg zb [.bool zb] (fun _=>True) (fun _=>False) rfl rfl ?aP (fun _ hk=>hk.elim) ?aF ?aO ?aB ?aS ?aL ?_;(case aP=>exact rfl);(case aB=>exact(qB HB));(case aF=>exact(fun _ _=>trivial));(case aO=>exact(pR za.out));(case aS=>exact(below_size (qB HB)));(case aL=>have:=zh.out;omega);intro zr w23 ho hb hg hat;rw[← zj.out] at ho;replace HB:=aM (hb);have zk:=aM (ho);clear za;clear ho hb hg hat));try go_wp2_with (first|(go_at_call 98;(with_reducible refine(faj.calls k3 _ _ l1 yd zb _ ?s1 HC1.out A21.out).mono ?_);(case s1=>exact sC HR1 HB);rintro e w' ⟨rfl,⟨nd,rfl⟩⟩;(try first|exact⟨rfl,_,World.drewN_drewN _ _ _⟩|exact⟨rfl,_,Eq.trans (World.drewN_drewN _ _ _) (congrArg (World.drewN _) (Nat.add_assoc _ _ _))⟩))|((with_reducible refine gate_builtin (b:=.append) (xs:=#[.tmp 48,.tmp 57]) rfl ?_);at_builtin;refine Kd.R_append Kd.bool (w0:=w) w.heap.size rfl (.tmp 48) (.tmp 57) 93 4 (.bool false) 1 rfl Try.underlying93 info4 rfl (by decide) (by omega) u7 yg zb [.bool zb] (fun _=>True) (fun _=>False) rfl rfl ?aP (fun _ hk=>hk.elim) ?aF ?aO ?aB ?aS ?aL ?_;(case aP=>exact rfl);(case aB=>exact(qB HB));(case aF=>exact(fun _ _=>trivial));(case aO=>exact(pR za.out));(case aS=>exact(below_size (qB HB)));(case aL=>have:=zh.out;omega);intro zr w23 ho hb hg hat;rw[← zj.out] at ho;replace HB:=aM (hb);have zk:=aM (ho);clear za;clear ho hb hg hat)))
  go_roundg k3
  case measure=>have:=HJ2.out;have:=HK2.out;have:=HK3.out;omega
  case rel=>exact⟨(zq),(wrap64 (yd+1)),(pF),H',⟨by have:=HJ2.out;have:=HK2.out;have:=HK3.out;omega⟩,⟨pR zk.out⟩,⟨qB HB⟩⟩
 rw[ip c6] at H
 have zm:=dT c6
 clear c6
 by_cases c7:0≤ya
 rotate_left
 ·rw[iN c7] at H
  cases H
 rw[ip c7] at H
 have c7b0:=dT c7
 clear c7
 by_cases c8:ya<(l1.length:Int)
 rotate_left
 ·rw[iN c8] at H
  cases H
 rw[ip c8] at H
 have c8b0:=dT c8
 clear c8
 by_cases c9:(rd l1 ya)<0
 ·rw[ip c9] at H
  have yw:=dT c9
  clear c9
  replace H:=oi2 H
  obtain⟨rfl,rfl⟩:=H
  obtain⟨ye,⟨⟩,yb,yn,yo⟩:=zI HR1.out ya
  replace yb:=zW HB yb
  go_wp2
  repeat(go_quiet (fail);try go_wp2)
  go_ret2
  exact⟨_,pE,pN,qB HB⟩
 rw[iN c9] at H
 have yw:=dF c9
 clear c9
 by_cases c10:(rd l1 ya) ≥ a0
 ·rw[ip c10] at H
  have yt:decide (a0≤(rd l1 ya))=true:=decide_eq_true c10
  clear c10
  replace H:=oi2 H
  obtain⟨rfl,rfl⟩:=H
  obtain⟨ye,⟨⟩,yb,yn,yo⟩:=zI HR1.out ya
  replace yb:=zW HB yb
  obtain⟨yh,yj,yc,yu,yv⟩:=zI HR1.out ya
  obtain rfl:ye=yh:=(by injection yj)
  replace yc:=zW HB yc
  go_wp2
  repeat(go_quiet (fail);try go_wp2)
  go_ret2
  exact⟨_,pE,pN,qB HB⟩
 rw[iN c10] at H
 have yt:decide (a0≤(rd l1 ya))=false:=decide_eq_false c10
 clear c10
 have c11b0:=eq_true (of_decide_eq_true pD:0≤ya)
 by_cases c12:ya≤(l1.length:Int)
 rotate_left
 ·rw[iN c12] at H
  cases H
 rw[ip c12] at H
 have c12b0:=eq_true c12
 have c12b1:=dT c12
 clear c12
 replace H:=oB H
 obtain⟨zl,zs,H⟩:=H
 try dsimp only at H
 have A13:=aM zs
 clear zs
 by_cases c14:zl=true
 ·subst c14
  rw[ip rfl] at H
  replace H:=oi2 H
  obtain⟨rfl,rfl⟩:=H
  obtain⟨ye,⟨⟩,yb,yn,yo⟩:=zI HR1.out ya
  replace yb:=zW HB yb
  obtain⟨yh,yj,yc,yu,yv⟩:=zI HR1.out ya
  obtain rfl:ye=yh:=(by injection yj)
  replace yc:=zW HB yc
  obtain⟨i015,yl,_,hsz15,_⟩:=info_parts info3
  obtain⟨hcut15,hA15,hC15⟩:=print_take_of (P:=Try.prog) (Value.int .i64) 0 22 3 .i64 Try.underlying22 yl hsz15 (some ye) c1 l1 ya (of_decide_eq_true pD) (of_decide_eq_true pD) HC1.out
  have HTK15:Aside0 ((ya:Int).toNat=(l1.take (ya:Int).toNat).length):=⟨by have h1_:(ya:Int)≤(l1.length:Int):=oD;have h0_:0≤(ya:Int):=oD;rw[List.length_take];omega⟩
  have HR610:=aM (Kd.C_of_reads (h1:=fun _=>rfl) (hA15 _ (Kd.reads_of_C HR1.out)))
  have HC610:=aM hC15
  clear hA15 hC15 yl hsz15
  obtain⟨yk,yp,yf,yx,yy⟩:=zI HR1.out ya
  obtain rfl:ye=yk:=(by injection yp)
  replace yf:=zW HB yf
  go_wp2_with (first|(go_at_call 98;(first|(with_reducible refine(faj.calls k2 _ _ (l1.take (ya:Int).toNat) (rd l1 ya) true _ ?s1 ?s2 A13.out).mono ?_)|(rw[HTK15.out];(with_reducible refine(faj.calls k2 _ _ (l1.take (ya:Int).toNat) (rd l1 ya) true _ ?s1 ?s2 A13.out).mono ?_)));(case s1=>exact sC HR610 HB);(case s2=>exact HC610.out);rintro e w' ⟨rfl,⟨nd,rfl⟩⟩;(try first|exact⟨rfl,_,World.drewN_drewN _ _ _⟩|exact⟨rfl,_,Eq.trans (World.drewN_drewN _ _ _) (congrArg (World.drewN _) (Nat.add_assoc _ _ _))⟩)))
  repeat(go_quiet (first|(go_at_call 98;(first|(with_reducible refine(faj.calls k2 _ _ (l1.take (ya:Int).toNat) (rd l1 ya) true _ ?s1 ?s2 A13.out).mono ?_)|(rw[HTK15.out];(with_reducible refine(faj.calls k2 _ _ (l1.take (ya:Int).toNat) (rd l1 ya) true _ ?s1 ?s2 A13.out).mono ?_)));(case s1=>exact sC HR610 HB);(case s2=>exact HC610.out);rintro e w' ⟨rfl,⟨nd,rfl⟩⟩;(try first|exact⟨rfl,_,World.drewN_drewN _ _ _⟩|exact⟨rfl,_,Eq.trans (World.drewN_drewN _ _ _) (congrArg (World.drewN _) (Nat.add_assoc _ _ _))⟩)));try go_wp2_with (first|(go_at_call 98;(first|(with_reducible refine(faj.calls k2 _ _ (l1.take (ya:Int).toNat) (rd l1 ya) true _ ?s1 ?s2 A13.out).mono ?_)|(rw[HTK15.out];(with_reducible refine(faj.calls k2 _ _ (l1.take (ya:Int).toNat) (rd l1 ya) true _ ?s1 ?s2 A13.out).mono ?_)));(case s1=>exact sC HR610 HB);(case s2=>exact HC610.out);rintro e w' ⟨rfl,⟨nd,rfl⟩⟩;(try first|exact⟨rfl,_,World.drewN_drewN _ _ _⟩|exact⟨rfl,_,Eq.trans (World.drewN_drewN _ _ _) (congrArg (World.drewN _) (Nat.add_assoc _ _ _))⟩))))
  go_ret2
  exact⟨_,pE,pN,qB HB⟩
 replace c14:=Bool.eq_false_iff.mpr c14
 subst c14
 rw[iN fT] at H
 have H':=aM H
 clear H
 obtain⟨ye,⟨⟩,yb,yn,yo⟩:=zI HR1.out ya
 replace yb:=zW HB yb
 obtain⟨yh,yj,yc,yu,yv⟩:=zI HR1.out ya
 obtain rfl:ye=yh:=(by injection yj)
 replace yc:=zW HB yc
 obtain⟨i016,ym,_,hsz16,_⟩:=info_parts info3
 obtain⟨hcut16,hA16,hC16⟩:=print_take_of (P:=Try.prog) (Value.int .i64) 0 22 3 .i64 Try.underlying22 ym hsz16 (some ye) c1 l1 ya (of_decide_eq_true pD) (of_decide_eq_true pD) HC1.out
 have HTK16:Aside0 ((ya:Int).toNat=(l1.take (ya:Int).toNat).length):=⟨by have h1_:(ya:Int)≤(l1.length:Int):=oD;have h0_:0≤(ya:Int):=oD;rw[List.length_take];omega⟩
 have HR610:=aM (Kd.C_of_reads (h1:=fun _=>rfl) (hA16 _ (Kd.reads_of_C HR1.out)))
 have HC610:=aM hC16
 clear hA16 hC16 ym hsz16
 obtain⟨yk,yp,yf,yx,yy⟩:=zI HR1.out ya
 obtain rfl:ye=yk:=(by injection yp)
 replace yf:=zW HB yf
 go_wp2_with (first|(go_at_call 98;(first|(with_reducible refine(faj.calls k2 _ _ (l1.take (ya:Int).toNat) (rd l1 ya) false _ ?s1 ?s2 A13.out).mono ?_)|(rw[HTK16.out];(with_reducible refine(faj.calls k2 _ _ (l1.take (ya:Int).toNat) (rd l1 ya) false _ ?s1 ?s2 A13.out).mono ?_)));(case s1=>exact sC HR610 HB);(case s2=>exact HC610.out);rintro e w' ⟨rfl,⟨nd,rfl⟩⟩;(try first|exact⟨rfl,_,World.drewN_drewN _ _ _⟩|exact⟨rfl,_,Eq.trans (World.drewN_drewN _ _ _) (congrArg (World.drewN _) (Nat.add_assoc _ _ _))⟩)))
 repeat(go_quiet (first|(go_at_call 98;(first|(with_reducible refine(faj.calls k2 _ _ (l1.take (ya:Int).toNat) (rd l1 ya) false _ ?s1 ?s2 A13.out).mono ?_)|(rw[HTK16.out];(with_reducible refine(faj.calls k2 _ _ (l1.take (ya:Int).toNat) (rd l1 ya) false _ ?s1 ?s2 A13.out).mono ?_)));(case s1=>exact sC HR610 HB);(case s2=>exact HC610.out);rintro e w' ⟨rfl,⟨nd,rfl⟩⟩;(try first|exact⟨rfl,_,World.drewN_drewN _ _ _⟩|exact⟨rfl,_,Eq.trans (World.drewN_drewN _ _ _) (congrArg (World.drewN _) (Nat.add_assoc _ _ _))⟩)));try go_wp2_with (first|(go_at_call 98;(first|(with_reducible refine(faj.calls k2 _ _ (l1.take (ya:Int).toNat) (rd l1 ya) false _ ?s1 ?s2 A13.out).mono ?_)|(rw[HTK16.out];(with_reducible refine(faj.calls k2 _ _ (l1.take (ya:Int).toNat) (rd l1 ya) false _ ?s1 ?s2 A13.out).mono ?_)));(case s1=>exact sC HR610 HB);(case s2=>exact HC610.out);rintro e w' ⟨rfl,⟨nd,rfl⟩⟩;(try first|exact⟨rfl,_,World.drewN_drewN _ _ _⟩|exact⟨rfl,_,Eq.trans (World.drewN_drewN _ _ _) (congrArg (World.drewN _) (Nat.add_assoc _ _ _))⟩))))
 go_roundg k2
 case measure=>have:=HJ2.out;have:=HK2.out;omega
 case rel=>exact⟨(wrap64 (ya+1)),(pF),H',⟨pO2 HJ2 HK2⟩,⟨qB HB⟩⟩
def fai.l0:Nat→List Int→Bool→List Bool→List Int→Int→Int→Option (List Int×Int)
 | 0,_,_,_,_,_,_=>none
 | k+1,x0,x2,x9,x10,x28,x29=>if x29<x28 then(if 0≤x29 then(if x29<(x9.length:Int)then(if rdOf false x9 x29=true then(if x2=true then(if x10.length<17592186044416 then(fai.l0 k x0 x2 x9 (x10++[1]) x28 (wrap64 (x29+1)))else(none))else(fai.l0 k x0 x2 x9 x10 x28 (wrap64 (x29+1))))else(if x29<(x0.length:Int)then(if x10.length<17592186044416 then(fai.l0 k x0 x2 x9 (x10++[rd x0 x29]) x28 (wrap64 (x29+1)))else(none))else(none)))else(none))else(none))else(some (x10,0))
def fai.f (k:Nat) (l0 l1:List Int)(a2:Bool):Option (List Int×Int):=(fag.f k l0).bind fun zb=>(if zb=0 then((faf.f k (l0.length:Int) l1).bind fun bt1038=>(if bt1038.2=0 then(fai.l0 k l0 a2 bt1038.1 ([]:List Int) (l0.length:Int) 0)else(some (([]:List Int),bt1038.2))))else(some (([]:List Int),zb)))
theorem fai.calls (k:Nat)(A0:Option Addr)(c0:Nat)(l0:List Int)(A1:Option Addr)(c1:Nat)(l1:List Int)(a2:Bool)(r1:List Int)(r2:Int)(w:World)(hr0:Kd.C (Kd.int .i64) w A0 l0.length l0)(hc0:l0.length≤c0)(hr1:Kd.C (Kd.int .i64) w A1 l1.length l1)(hc1:l1.length≤c1)(h:fai.f k l0 l1 a2=some (r1,r2)) :
  Calls Try.prog 80 #[.slice A0 l0.length c0,.slice A1 l1.length c1,.bool a2] w fun e w'=>∃ v0_:Value,e=.returned (.tuple #[v0_,.int .i64 r2])∧Kd.R (Kd.int .i64) 3 w' w.heap.size (fun _=>True) v0_ r1∧Below w.heap.size w w':=by
 have HR0:=aM hr0
 have HC0:=aM hc0
 clear hr0 hc0
 have HR1:=aM hr1
 have HC1:=aM hc1
 clear hr1 hc1
 have HB:=aM (Below.refl w.heap.size w)
 have H:((fag.f k l0).bind fun zb=>(if zb=0 then((faf.f k (l0.length:Int) l1).bind fun bt1038=>(if bt1038.2=0 then(fai.l0 k l0 a2 bt1038.1 ([]:List Int) (l0.length:Int) 0)else(some (([]:List Int),bt1038.2))))else(some (([]:List Int),zb))))=some (r1,r2):=h
 clear h
 replace H:=oB H
 obtain⟨zb,A40,H⟩:=H
 try dsimp only at H
 have A4:=aM A40
 clear A40
 by_cases c5:zb=0
 rotate_left
 ·rw[iN c5] at H
  have zl:=bF c5
  have zm:=nT c5
  replace H:=oi2 H
  obtain⟨rfl,rfl⟩:=H
  go_enter Try.func80,Try.ntmps80
  go_wp2_with (first|((with_reducible refine gC 30 rfl ?_);refine gL 13 Try.func30 #[.slice A0 l0.length c0] ?_;(with_reducible refine(fag.calls k _ _ l0 zb _ ?s1 HC0.out A4.out).mono ?_);(case s1=>exact pC HR0.out);rintro e w' ⟨rfl,⟨nd,rfl⟩⟩;refine⟨_,rfl,?_⟩))
  go_ret2
  exact⟨_,pE,pN,qB HB⟩
 rw[ip c5] at H
 have zl:=bT c5
 have zm:=nF c5
 clear c5
 replace H:=oB H
 obtain⟨⟨za,ze⟩,A60,H⟩:=H
 try dsimp only at H
 have A6:=aM A60
 clear A60
 by_cases c7:ze=0
 rotate_left
 ·rw[iN c7] at H
  have zn:=bF c7
  have zo:=nT c7
  replace H:=oi2 H
  obtain⟨rfl,rfl⟩:=H
  go_enter Try.func80,Try.ntmps80
  go_wp2_with (first|((with_reducible refine gC 30 rfl ?_);refine gL 13 Try.func30 #[.slice A0 l0.length c0] ?_;(with_reducible refine(fag.calls k _ _ l0 zb _ ?s1 HC0.out A4.out).mono ?_);(case s1=>exact pC HR0.out);rintro e w' ⟨rfl,⟨nd,rfl⟩⟩;refine⟨_,rfl,?_⟩)|((with_reducible refine gC 93 rfl ?_);refine gL 21 Try.func93 #[.int .i64 (l0.length:Int),.slice A1 l1.length c1] ?_;(with_reducible refine(faf.calls k (l0.length:Int) _ _ l1 za ze _ ?s1 HC1.out A6.out).mono ?_);(case s1=>exact pC HR1.out);rintro e w23 ⟨zi,rfl,ho0,hb⟩;refine⟨_,rfl,?_⟩;have zh:=aM (Kd.R_lower ho0 (below_size (qB HB)));replace HB:=bS (qB HB) hb))
  go_ret2
  exact⟨_,pE,pN,qB HB⟩
 rw[ip c7] at H
 have zn:=bT c7
 have zo:=nF c7
 clear c7
 have H':=aM H
 clear H
 go_enter Try.func80,Try.ntmps80
 go_wp2_with (first|((with_reducible refine gC 30 rfl ?_);refine gL 13 Try.func30 #[.slice A0 l0.length c0] ?_;(with_reducible refine(fag.calls k _ _ l0 zb _ ?s1 HC0.out A4.out).mono ?_);(case s1=>exact pC HR0.out);rintro e w' ⟨rfl,⟨nd,rfl⟩⟩;refine⟨_,rfl,?_⟩)|((with_reducible refine gC 93 rfl ?_);refine gL 21 Try.func93 #[.int .i64 (l0.length:Int),.slice A1 l1.length c1] ?_;(with_reducible refine(faf.calls k (l0.length:Int) _ _ l1 za ze _ ?s1 HC1.out A6.out).mono ?_);(case s1=>exact pC HR1.out);rintro e w8 ⟨zi,rfl,ho0,hb⟩;refine⟨_,rfl,?_⟩;have zh:=aM (Kd.R_lower ho0 (below_size (qB HB)));replace HB:=bS (qB HB) hb))
 go_loopg [10,29] k (fun kq v10 v29 w'=>∃ (yb:List Int) (ya:Int),v29=.int .i64 ya∧Aside0 (fai.l0 kq l0 a2 za yb (l0.length:Int) ya=some (r1,r2))∧Aside0 (kq≤k)∧Aside0 (Kd.R Kd.bool 4 w' w.heap.size (fun _=>True) zi za)∧Aside0 (Kd.R (Kd.int .i64) 3 w' w.heap.size (fun _=>True) v10 yb)∧Aside0 (Below w.heap.size w w'))
 case atStart=>exact⟨(([]:List Int)),(0),(pF),H',⟨Nat.le_refl _⟩,⟨pR zh.out⟩,⟨pN⟩,⟨qB HB⟩⟩
 clear H'
 try clear c1
 try clear zl
 try clear zm
 try clear zn
 try clear zo
 obtain⟨yb,ya,rfl,HA,HK1,zc,zd,HB⟩:=hrel
 cases gk with
 | zero=>exact absurd HA.out (by simp[fai.l0])
 | succ k1=>?_
 have H:=HA.out
 clear HA
 simp only[fai.l0] at H
 by_cases c9:ya<(l0.length:Int)
 rotate_left
 ·rw[iN c9] at H
  have yi:=dF c9
  clear c9
  replace H:=oi2 H
  obtain⟨rfl,rfl⟩:=H
  go_wp2
  go_ret2
  exact⟨_,pE,pR zd.out,qB HB⟩
 rw[ip c9] at H
 have yi:=dT c9
 clear c9
 by_cases c10:0≤ya
 rotate_left
 ·rw[iN c10] at H
  cases H
 rw[ip c10] at H
 have c10b0:=dT c10
 clear c10
 by_cases c11:ya<(za.length:Int)
 rotate_left
 ·rw[iN c11] at H
  cases H
 rw[ip c11] at H
 have c11b0:=dT c11
 clear c11
 obtain⟨bq12,hbq12⟩:∃ b_:Bool,b_=(rdOf false za ya):=⟨_,rfl⟩
 replace H:(if bq12=true then(if a2=true then(if yb.length<17592186044416 then(fai.l0 k1 l0 a2 za (yb++[1]) (l0.length:Int) (wrap64 (ya+1)))else(none))else(fai.l0 k1 l0 a2 za yb (l0.length:Int) (wrap64 (ya+1))))else(if ya<(l0.length:Int)then(if yb.length<17592186044416 then(fai.l0 k1 l0 a2 za (yb++[rd l0 ya]) (l0.length:Int) (wrap64 (ya+1)))else(none))else(none)))=some (r1,r2):=by rw[← hbq12] at H;exact H
 have Nbq12:=aM hbq12
 clear hbq12
 by_cases c13:bq12=true
 rotate_left
 ·replace c13:=Bool.eq_false_iff.mpr c13
  subst c13
  rw[iN fT] at H
  by_cases c19:ya<(l0.length:Int)
  rotate_left
  ·rw[iN c19] at H
   cases H
  rw[ip c19] at H
  have c19b0:=dT c19
  clear c19
  by_cases c20:yb.length<17592186044416
  rotate_left
  ·rw[iN c20] at H
   cases H
  rw[ip c20] at H
  have LMc20:=aM c20
  clear c20
  obtain⟨zj,zf⟩:∃ y_:List Int,y_=(yb++[rd l0 ya]):=⟨_,rfl⟩
  replace H:(fai.l0 k1 l0 a2 za zj (l0.length:Int) (wrap64 (ya+1)))=some (r1,r2):=pH zf H
  have Ny1047:=aM zf
  clear zf
  have H':=aM H
  clear H
  obtain⟨Ao21,co21,yj⟩:=Kd.R_slice zc.out
  subst yj
  have yd:0≤(ya:Int):=oD
  have ye:ya<(za.length:Int):=oD
  obtain⟨yh,yf,yc⟩:=Kd.at_bool (Kd.R_reads' zc.out).2.2 ya yd ye
  (try rw[← Nbq12.out] at yc)
  cases yf
  obtain⟨ad1046,⟨⟩,yg,p1046,q1046⟩:=zI HR0.out ya
  replace yg:=zW HB yg
  go_wp2_with (first|((with_reducible refine gate_builtin (b:=.append) (xs:=#[.tmp 37,.tmp 42]) rfl ?_);at_builtin;refine Kd.R_append (Kd.int .i64) (w0:=w) w.heap.size rfl (.tmp 37) (.tmp 42) 22 3 (.int .i64 0) 8 rfl Try.underlying22 info3 rfl (by decide) (by omega) u10 yb (rd l0 ya) [.int .i64 (rd l0 ya)] (fun _=>True) (fun _=>False) rfl rfl ?aP (fun _ hk=>hk.elim) ?aF ?aO ?aB ?aS ?aL ?_;(case aP=>exact rfl);(case aB=>exact(qB HB));(case aF=>exact(fun _ _=>trivial));(case aO=>exact(pR zd.out));(case aS=>exact(below_size (qB HB)));(case aL=>have:=LMc20.out;omega);intro v1048 w22 ho hb hg hat;rw[← Ny1047.out] at ho;replace zc:=aM (Kd.R_over' (pR zc.out) (Kd.R_typed (pR zd.out)) (by decide) hg);replace HB:=aM (hb);have HO1049:=aM (ho);clear zd;clear ho hb hg hat))
  go_roundg k1
  case measure=>have:=HK1.out;omega
  case rel=>exact⟨(zj),(wrap64 (ya+1)),(pF),H',⟨pO1 HK1⟩,⟨pR zc.out⟩,⟨pR HO1049.out⟩,⟨qB HB⟩⟩
 subst c13
 rw[ip rfl] at H
 by_cases c14:a2=true
 rotate_left
 ·replace c14:=Bool.eq_false_iff.mpr c14
  subst c14
  rw[iN fT] at H
  have H':=aM H
  clear H
  obtain⟨Ao18,co18,yk⟩:=Kd.R_slice zc.out
  subst yk
  have yd:0≤(ya:Int):=oD
  have ye:ya<(za.length:Int):=oD
  obtain⟨yh,yf,yc⟩:=Kd.at_bool (Kd.R_reads' zc.out).2.2 ya yd ye
  (try rw[← Nbq12.out] at yc)
  cases yf
  go_wp2
  go_roundg k1
  case measure=>have:=HK1.out;omega
  case rel=>exact⟨(yb),(wrap64 (ya+1)),(pF),H',⟨pO1 HK1⟩,⟨pR zc.out⟩,⟨pR zd.out⟩,⟨qB HB⟩⟩
 subst c14
 rw[ip rfl] at H
 by_cases c15:yb.length<17592186044416
 rotate_left
 ·rw[iN c15] at H
  cases H
 rw[ip c15] at H
 have LMc15:=aM c15
 clear c15
 obtain⟨zk,zg⟩:∃ y_:List Int,y_=(yb++[1]):=⟨_,rfl⟩
 replace H:(fai.l0 k1 l0 true za zk (l0.length:Int) (wrap64 (ya+1)))=some (r1,r2):=pH zg H
 have Ny1043:=aM zg
 clear zg
 have H':=aM H
 clear H
 obtain⟨Ao16,co16,yl⟩:=Kd.R_slice zc.out
 subst yl
 have yd:0≤(ya:Int):=oD
 have ye:ya<(za.length:Int):=oD
 obtain⟨yh,yf,yc⟩:=Kd.at_bool (Kd.R_reads' zc.out).2.2 ya yd ye
 (try rw[← Nbq12.out] at yc)
 cases yf
 go_wp2_with (first|((with_reducible refine gate_builtin (b:=.append) (xs:=#[.tmp 45,.tmp 46]) rfl ?_);at_builtin;refine Kd.R_append (Kd.int .i64) (w0:=w) w.heap.size rfl (.tmp 45) (.tmp 46) 22 3 (.int .i64 0) 8 rfl Try.underlying22 info3 rfl (by decide) (by omega) u10 yb 1 [.int .i64 1] (fun _=>True) (fun _=>False) rfl rfl ?aP (fun _ hk=>hk.elim) ?aF ?aO ?aB ?aS ?aL ?_;(case aP=>exact rfl);(case aB=>exact(qB HB));(case aF=>exact(fun _ _=>trivial));(case aO=>exact(pR zd.out));(case aS=>exact(below_size (qB HB)));(case aL=>have:=LMc15.out;omega);intro v1044 w17 ho hb hg hat;rw[← Ny1043.out] at ho;replace zc:=aM (Kd.R_over' (pR zc.out) (Kd.R_typed (pR zd.out)) (by decide) hg);replace HB:=aM (hb);have HO1045:=aM (ho);clear zd;clear ho hb hg hat))
 go_roundg k1
 case measure=>have:=HK1.out;omega
 case rel=>exact⟨(zk),(wrap64 (ya+1)),(pF),H',⟨pO1 HK1⟩,⟨pR zc.out⟩,⟨pR HO1045.out⟩,⟨qB HB⟩⟩
def fbe.f (a0 ya yc yd ye yf yg yh yi:Int)(yj:Bool)(yb:List Int):Option (List Int):=if a0=27 then(some yb)else(if a0=28 then(some yb)else(some (([ya]:List Int))))
theorem fbe.calls (a0 ya yc yd ye yf yg yh yi:Int)(yj:Bool)(yk:Option Addr)(yl:Nat)(yb r:List Int)(w:World)(ym:Kd.C (Kd.int .i64) w yk yb.length yb)(yn:yb.length≤yl)(h:fbe.f a0 ya yc yd ye yf yg yh yi yj yb=some r) :
  Calls Try.prog 81 #[.int .i64 a0,.agg #[.int .i64 ya,.int .i64 yc,.int .i64 yd,.int .i64 ye,.int .i64 yf,.int .i64 yg,.int .i64 yh,.int .i64 yi,.bool yj,.slice yk yb.length yl]] w fun e w'=>∃ (A_:Option Addr) (c_:Nat),e=.returned (.slice A_ r.length c_)∧Kd.C (Kd.int .i64) w' A_ r.length r∧r.length≤c_∧Below w.heap.size w w':=by
 have hu24:=Try.underlying24
 have HR:=aM ym
 have HC:=aM yn
 clear ym yn
 have HB:=aM (Below.refl w.heap.size w)
 rw[fbe.f] at h
 by_cases c27:a0=27
 ·rw[ip c27] at h
  have yo:=bT c27
  have yp:=nF c27
  clear c27
  obtain rfl:=Option.some.inj h
  go_enter Try.func81,Try.ntmps81
  go_wp2_with (first|((with_reducible refine gD 3 rfl ?_);refine bX 3 24 (aT ya yc yd ye yf yg yh yi yj yk yb.length yl) ?_;intro g hg w9 hbox hb;have BK:=aM hbox;have GE:=gE (w:=w) hg (qB HB);replace HB:=bS (qB HB) hb;clear hb hbox hg;have hcz6:=blk10 BK.out))
  go_ret
  exact⟨_,_,pE,sC HR HB,HC.out,qB1 HB GE⟩
 rw[iN c27] at h
 have yo:=bF c27
 have yp:=nT c27
 by_cases c28:a0=28
 ·rw[ip c28] at h
  have yq:=bT c28
  have yr:=nF c28
  clear c28
  obtain rfl:=Option.some.inj h
  go_enter Try.func81,Try.ntmps81
  go_wp2_with (first|((with_reducible refine gD 3 rfl ?_);refine bX 3 24 (aT ya yc yd ye yf yg yh yi yj yk yb.length yl) ?_;intro g hg w9 hbox hb;have BK:=aM hbox;have GE:=gE (w:=w) hg (qB HB);replace HB:=bS (qB HB) hb;clear hb hbox hg;have hcz7:=blk10 BK.out))
  go_ret
  exact⟨_,_,pE,sC HR HB,HC.out,qB1 HB GE⟩
 rw[iN c28] at h
 have yq:=bF c28
 have yr:=nT c28
 obtain rfl:=Option.some.inj h
 go_enter Try.func81,Try.ntmps81
 go_wp2_with (first|((with_reducible refine gD 3 rfl ?_);refine bX 3 24 (aT ya yc yd ye yf yg yh yi yj yk yb.length yl) ?_;intro g hg w9 hbox hb;have BK:=aM hbox;have GE:=gE (w:=w) hg (qB HB);replace HB:=bS (qB HB) hb;clear hb hbox hg;have hcz8:=blk10 BK.out)|((with_reducible refine gD 15 rfl ?_);refine Kd.R_lit (Kd.int .i64) _ 3 ?hg (N:=15) ?hd (xs:=([ya]:List Int)) (inner:=[.int .i64 ya]) (ok:=fun _=>True) (okp:=fun _=>True) ?hr ?hp (fun _ hk=>hk) trivial (Below.refl _ _) (Nat.le_refl _) (by simp) ?_;(case hd=>rfl);(case hg=>rfl);(case hr=>first|(go_simp;done)|(go_simp;rfl));(case hp=>exact(Reps.one (show Kd.M (Kd.int .i64) _ _ _ ya [.int .i64 ya] from rfl) (Reps.none _ _)));intro v951 w14 ho15 hb hg_ hnew_;clear hg_ hnew_;have HO:=aM ho15;replace BK:=bK BK hb;replace HB:=bS (qB1 HB GE) hb;clear hb ho15))
 go_ret
 obtain⟨Ao,co,eo⟩:=Kd.R_slice HO.out
 subst eo
 exact⟨_,_,pE,sR HO,sL HO,qB1 HB GE⟩
def fbd.f (k:Nat) (a0 yc yd ye yf yg yh yi yj:Int)(ya:Bool)(yb l2:List Int):Option (List Int×Int):=if a0<27 then some ([],14)else if a0 > 31 then some ([],14)else(fbe.f a0 yc yd ye yf yg yh yi yj ya yb).bind fun t_=>(fai.f k l2 t_ ya).bind fun r_=>some (r_.1,r_.2)
def fbd.T3:TT:=(true,[([],[]),([],[]),([],[]),([1,2],[1,2]),([],[]),([4],[4]),([0,3,5,3],[0,3,5]),([6],[6]),([6],[6]),([7,6,0,1,2,3,4,5,6,7,8],[7]),([8,9,0,1,2,3,4,5,6,7,8,9],[8])])
def fbd.B3:List Nat:=[0,0,0,6,0,16,63,127,127,511,1023]
theorem fbd.tab3:rtab .any (opsOf Try.f59 3)=fbd.T3:=by kernel_rfl
theorem fbd.bits3:waitsOk fbd.T3.2 fbd.B3=true:=by kernel_rfl
theorem fbd.drawn {w w':World} (h:Drawn0 w w'):Below w.heap.size w w':=by
 obtain⟨nd,rfl⟩:=h
 exact pw_below_drewN (Below.refl _ _) _
theorem fbd.calls (k:Nat) (a0 yc yd ye yf yg yh yi yj:Int)(ya:Bool)(yk:Option Addr)(yl:Nat)(yb:List Int)(A2:Option Addr)(c2:Nat)(l2 r1:List Int)(r2:Int)(w:World)(ym:Kd.C (Kd.int .i64) w yk yb.length yb)(yn:yb.length≤yl)(hr2:Kd.C (Kd.int .i64) w A2 l2.length l2)(hc2:l2.length≤c2)(h:fbd.f k a0 yc yd ye yf yg yh yi yj ya yb l2=some (r1,r2)) :
  Calls Try.prog 59 #[.int .i64 a0,.agg #[.int .i64 yc,.int .i64 yd,.int .i64 ye,.int .i64 yf,.int .i64 yg,.int .i64 yh,.int .i64 yi,.int .i64 yj,.bool ya,.slice yk yb.length yl],.slice A2 l2.length c2] w fun e w'=>∃ v0_:Value,e=.returned (.tuple #[v0_,.int .i64 r2])∧Kd.R (Kd.int .i64) 3 w' w.heap.size (fun _=>True) v0_ r1∧Below w.heap.size w w':=by
 have hu24:=Try.underlying24
 have HR:=aM ym
 have HC:=aM yn
 have HR2:=aM hr2
 have HC2:=aM hc2
 clear ym yn hr2 hc2
 have HB:=aM (Below.refl w.heap.size w)
 have H:(if a0<27 then some ([],14)else if a0 > 31 then some ([],14)else(fbe.f a0 yc yd ye yf yg yh yi yj ya yb).bind fun t_=>(fai.f k l2 t_ ya).bind fun r_=>some (r_.1,r_.2))=some (r1,r2):=h
 clear h
 by_cases c1:a0<27
 ·rw[ip c1] at H
  have d1:=dT c1
  replace H:=oi2 H
  obtain⟨rfl,rfl⟩:=H
  go_enter Try.func59,Try.ntmps59
  go_wp2_with (first|((with_reducible refine gD 4 rfl ?_);refine bX 4 24 (aT yc yd ye yf yg yh yi yj ya yk yb.length yl) ?_;intro g hg w9 hbox hb;have BK:=aM hbox;have GE:=gE (w:=w) hg (qB HB);replace HB:=bS (qB HB) hb;clear hb hbox hg;have hcz9:=blk10 BK.out))
  go_ret2
  exact⟨_,pE,pN,qB1 HB GE⟩
 rw[iN c1] at H
 have d1:=dF c1
 by_cases c2_:a0 > 31
 ·rw[ip c2_] at H
  have d2:decide (a0 > 31)=true:=decide_eq_true c2_
  replace H:=oi2 H
  obtain⟨rfl,rfl⟩:=H
  go_enter Try.func59,Try.ntmps59
  go_wp2_with (first|((with_reducible refine gD 4 rfl ?_);refine bX 4 24 (aT yc yd ye yf yg yh yi yj ya yk yb.length yl) ?_;intro g hg w9 hbox hb;have BK:=aM hbox;have GE:=gE (w:=w) hg (qB HB);replace HB:=bS (qB HB) hb;clear hb hbox hg;have hcz10:=blk10 BK.out))
  go_ret2
  exact⟨_,pE,pN,qB1 HB GE⟩
 rw[iN c2_] at H
 have d2:decide (a0 > 31)=false:=decide_eq_false c2_
 replace H:=oB H
 obtain⟨t_,E0,H⟩:=H
 have AX:=aM E0
 clear E0
 replace H:=oB H
 obtain⟨⟨x1,x2⟩,E0,H⟩:=H
 have AD:=aM E0
 clear E0
 replace H:=oi2 H
 obtain⟨rfl,rfl⟩:=H
 go_enter Try.func59,Try.ntmps59
 go_wp2_with (first|((with_reducible refine gD 4 rfl ?_);refine bX 4 24 (aT yc yd ye yf yg yh yi yj ya yk yb.length yl) ?_;intro g hg w9 hbox hb;have BK:=aM hbox;have GE:=gE (w:=w) hg (qB HB);replace HB:=bS (qB HB) hb;clear hb hbox hg;have hcz11:=blk10 BK.out))
 replace BK:=aM (blk_drew BK.out)
 replace HB:=aM (below_drew1 HB.out)
 refine sT 11 [] (fun w'=>w'.cell? ⟨g,0,none⟩=some (.int .i64 yc)∧w'.cell? ⟨g,1,none⟩=some (.int .i64 yd)∧w'.cell? ⟨g,2,none⟩=some (.int .i64 ye)∧w'.cell? ⟨g,3,none⟩=some (.int .i64 yf)∧w'.cell? ⟨g,4,none⟩=some (.int .i64 yg)∧w'.cell? ⟨g,5,none⟩=some (.int .i64 yh)∧w'.cell? ⟨g,6,none⟩=some (.int .i64 yi)∧w'.cell? ⟨g,7,none⟩=some (.int .i64 yj)∧w'.cell? ⟨g,8,none⟩=some (.bool ya)∧w'.cell? ⟨g,9,none⟩=some (.slice yk yb.length yl)) fbd.tab3 fbd.bits3 ⟨(blk_cell BK.out 0).trans rfl,(blk_cell BK.out 1).trans rfl,(blk_cell BK.out 2).trans rfl,(blk_cell BK.out 3).trans rfl,(blk_cell BK.out 4).trans rfl,(blk_cell BK.out 5).trans rfl,(blk_cell BK.out 6).trans rfl,(blk_cell BK.out 7).trans rfl,(blk_cell BK.out 8).trans rfl,(blk_cell BK.out 9).trans rfl⟩ (fun hHeld HT_ HW_=>?_)
 generalize w9.drew=w11 at BK HB hHeld ⊢
 refine pQ 0 14 11 1 HT_ ?_
 refine pQ 1 15 11 3 HT_ ?_
 refine pQ 4 18 11 19 HT_ ?_
 refine pU10 2 16 11 23 HT_ HW_ hHeld ?_
 refine pU10 5 19 11 55 HT_ HW_ hHeld ?_
 refine oN 3 17 11 63 HT_ (fun K hK=>?_)
 refine gS Try.func81 #[.int .i64 a0,.agg (aT yc yd ye yf yg yh yi yj ya yk yb.length yl)] ?_
 with_reducible refine(fbe.calls a0 yc yd ye yf yg yh yi yj ya yk yl yb t_ _ ?s1 HC.out AX.out).mono ?_
 (case s1=>exact sC HR HB)
 rintro e w12 ⟨A_,c_,rfl,ha,hc_,hb⟩
 refine⟨_,rfl,?_⟩
 have HA:=aM ha
 have HCA:=aM hc_
 clear ha hc_
 replace BK:=bK BK hb
 replace HB:=bS (qB1 HB GE) hb
 clear hb
 refine hK.out _ _ ⟨(blk_cell BK.out 0).trans rfl,(blk_cell BK.out 1).trans rfl,(blk_cell BK.out 2).trans rfl,(blk_cell BK.out 3).trans rfl,(blk_cell BK.out 4).trans rfl,(blk_cell BK.out 5).trans rfl,(blk_cell BK.out 6).trans rfl,(blk_cell BK.out 7).trans rfl,(blk_cell BK.out 8).trans rfl,(blk_cell BK.out 9).trans rfl⟩ (fun hHeld=>?_)
 clear hK K
 refine nM 17 ?_
 refine oN 6 20 11 127 HT_ (fun K hK=>?_)
 refine gS Try.func80 #[.slice A2 l2.length c2,.slice A_ t_.length c_,.bool ya] ?_
 with_reducible refine(fai.calls k _ _ l2 _ _ t_ ya x1 x2 _ ?s1 HC2.out HA.out HCA.out AD.out).mono ?_
 (case s1=>exact sC HR2 HB)
 rintro e w13 ⟨v960,rfl,ho0,hb⟩
 refine⟨_,rfl,?_⟩
 have HO:=aM (Kd.R_lower ho0 (below_size (qB1 HB GE)))
 replace BK:=bK BK hb
 replace HB:=bS (qB1 HB GE) hb
 clear hb ho0
 refine hK.out _ _ ⟨(blk_cell BK.out 0).trans rfl,(blk_cell BK.out 1).trans rfl,(blk_cell BK.out 2).trans rfl,(blk_cell BK.out 3).trans rfl,(blk_cell BK.out 4).trans rfl,(blk_cell BK.out 5).trans rfl,(blk_cell BK.out 6).trans rfl,(blk_cell BK.out 7).trans rfl,(blk_cell BK.out 8).trans rfl,(blk_cell BK.out 9).trans rfl⟩ (fun hHeld=>?_)
 clear hK K
 refine nM 20 ?_
 refine pQ 7 21 11 255 HT_ ?_
 refine pQ 8 22 11 511 HT_ ?_
 refine pQ 9 6 11 1023 HT_ ?_
 refine pQ 10 7 11 2047 HT_ ?_
 refine dN HT_ ?_
 try go_wp2
 go_ret2
 exact⟨_,pE,by(with_reducible repeat(first|apply rA|apply rN|apply rD));exact HO.out,qB1 HB GE⟩
def fbf.j0:Nat→List Int→List Int→Int→Int→Bool→Option (List Int×Int)
 | 0,_,_,_,_,_=>none
 | k+1,x0,x1,x8,x9,x32=>if x32=true then(some (([]:List Int),9))else(if 0≤(wrap64 (x8-1))then(if(wrap64 (x8-1))<(x0.length:Int)then(if 0≤(wrap64 (x9-2))then(if(wrap64 (x9-2))<(x1.length:Int)then(if(rd x0 (wrap64 (x8-1)))=(rd x1 (wrap64 (x9-2)))then(if 0≤(wrap64 (x8-2))then(if(wrap64 (x8-2))≤(x0.length:Int)then(if(wrap64 (x9-2))≤(x1.length:Int)then((fat.f k (x0.take ((wrap64 (x8-2)):Int).toNat) (x1.take ((wrap64 (x9-2)):Int).toNat)).bind fun bt1056=>(if bt1056.2=0 then((some (([]:List Int):List Int)).bind fun zk=>(if zk.length+bt1056.1.length<17592186044416 then((some (zk++bt1056.1:List Int)).bind fun zh=>(if(wrap64 (x8-2))<(x0.length:Int)then(if 0≤(wrap64 (x9-1))then(if(wrap64 (x9-1))<(x1.length:Int)then((some (([rd x0 (wrap64 (x8-2)),rd x1 (wrap64 (x9-1))]:List Int):List Int)).bind fun zd=>(if zh.length+zd.length<17592186044416 then((some (zh++zd:List Int)).bind fun zg=>((fag.f k zg).bind fun ze=>(if ze=0 then(some (zg,0))else(some (([]:List Int),ze)))))else(none)))else(none))else(none))else(none)))else(none)))else(some (([]:List Int),bt1056.2))))else(none))else(none))else(none))else(some (([]:List Int),8)))else(none))else(none))else(none))else(none))
def fbf.f (k:Nat) (l0 l1:List Int):Option (List Int×Int):=(fag.f k l0).bind fun zo=>((fag.f k l1).bind fun zp=>(if zo=0 then(if zp=0 then(if(l0.length:Int)<2 then(fbf.j0 k l0 l1 (l0.length:Int) (l1.length:Int) true)else(fbf.j0 k l0 l1 (l0.length:Int) (l1.length:Int) (decide ((l1.length:Int)<2))))else(some (([]:List Int),zp)))else(some (([]:List Int),zo))))
def fbf.T9:TT:=(true,[([],[]),([],[]),([1],[1]),([0,2],[0,2]),([3],[3]),([],[]),([],[]),([6],[6]),([5,7],[5,7]),([8],[8]),([4,9],[4,9])])
def fbf.B9:List Nat:=[0,0,2,7,15,0,0,64,224,480,1023]
theorem fbf.tab9:rtab .any (opsOf Try.f60 9)=fbf.T9:=by kernel_rfl
theorem fbf.bits9:waitsOk fbf.T9.2 fbf.B9=true:=by kernel_rfl
def fbf.T11:TT:=(true,[([],[]),([],[]),([1],[1]),([0,2],[0,2]),([],[]),([],[]),([5],[5]),([4,6],[4,6]),([3,7],[3,7]),([8],[8]),([9],[9]),([9],[9]),([10,8,0,1,2,3,4,5,6,7,8,9,10],[10]),([11,12,0,1,2,3,4,5,6,7,8,9,10,11,12],[11])])
def fbf.B11:List Nat:=[0,0,2,7,0,0,32,112,255,511,1023,1023,2047,8191]
theorem fbf.tab11:rtab .any (opsOf Try.f60 11)=fbf.T11:=by kernel_rfl
theorem fbf.bits11:waitsOk fbf.T11.2 fbf.B11=true:=by kernel_rfl
def fbf.T14:TT:=(true,[([],[]),([],[]),([0,1],[0,1]),([],[]),([],[]),([4],[4]),([3,5],[3,5]),([6],[6]),([],[]),([],[]),([9],[9]),([8,10],[8,10]),([11],[11]),([7,12],[7,12]),([2,13,2],[2,13]),([14,14,0,1,2,3,4,5,6,7,8,9,10,11,12,13,14],[14])])
def fbf.B14:List Nat:=[0,0,3,0,0,16,56,120,0,0,512,1792,3840,8184,16383,32767]
theorem fbf.tab14:rtab .any (opsOf Try.f60 14)=fbf.T14:=by kernel_rfl
theorem fbf.bits14:waitsOk fbf.T14.2 fbf.B14=true:=by kernel_rfl
theorem fbf.calls (k:Nat)(A0:Option Addr)(c0:Nat)(l0:List Int)(A1:Option Addr)(c1:Nat)(l1 r1:List Int)(r2:Int)(w:World)(hr0:Kd.C (Kd.int .i64) w A0 l0.length l0)(hc0:l0.length≤c0)(hr1:Kd.C (Kd.int .i64) w A1 l1.length l1)(hc1:l1.length≤c1)(h:fbf.f k l0 l1=some (r1,r2)) :
  Calls Try.prog 60 #[.slice A0 l0.length c0,.slice A1 l1.length c1] w fun e w'=>∃ v0_:Value,e=.returned (.tuple #[v0_,.int .i64 r2])∧Kd.R (Kd.int .i64) 3 w' w.heap.size (fun _=>True) v0_ r1∧Below w.heap.size w w':=by
 have HR0:=aM hr0
 have HC0:=aM hc0
 clear hr0 hc0
 have HR1:=aM hr1
 have HC1:=aM hc1
 clear hr1 hc1
 have HB:=aM (Below.refl w.heap.size w)
 have H:((fag.f k l0).bind fun zo=>((fag.f k l1).bind fun zp=>(if zo=0 then(if zp=0 then(if(l0.length:Int)<2 then(fbf.j0 k l0 l1 (l0.length:Int) (l1.length:Int) true)else(fbf.j0 k l0 l1 (l0.length:Int) (l1.length:Int) (decide ((l1.length:Int)<2))))else(some (([]:List Int),zp)))else(some (([]:List Int),zo)))))=some (r1,r2):=h
 clear h
 replace H:=oB H
 obtain⟨zo,A30,H⟩:=H
 try dsimp only at H
 have A3:=aM A30
 clear A30
 replace H:=oB H
 obtain⟨zp,A40,H⟩:=H
 try dsimp only at H
 have A4:=aM A40
 clear A40
 by_cases c5:zo=0
 rotate_left
 ·rw[iN c5] at H
  have z7:=bF c5
  have z8:=nT c5
  replace H:=oi2 H
  obtain⟨rfl,rfl⟩:=H
  go_enter Try.func60,Try.ntmps60
  go_wp2_with (first|((with_reducible refine gC 30 rfl ?_);refine gL 14 Try.func30 #[.slice A0 l0.length c0] ?_;(with_reducible refine(fag.calls k _ _ l0 zo _ ?s1 HC0.out A3.out).mono ?_);(case s1=>exact pC HR0.out);rintro e w' ⟨rfl,⟨nd,rfl⟩⟩;refine⟨_,rfl,?_⟩)|((with_reducible refine gC 30 rfl ?_);refine gL 16 Try.func30 #[.slice A1 l1.length c1] ?_;(with_reducible refine(fag.calls k _ _ l1 zp _ ?s1 HC1.out A4.out).mono ?_);(case s1=>exact pC HR1.out);rintro e w' ⟨rfl,⟨nd,rfl⟩⟩;refine⟨_,rfl,?_⟩))
  go_ret2
  exact⟨_,pE,pN,qB HB⟩
 rw[ip c5] at H
 have z7:=bT c5
 have z8:=nF c5
 clear c5
 by_cases c6:zp=0
 rotate_left
 ·rw[iN c6] at H
  have z9:=bF c6
  have zaa:=nT c6
  replace H:=oi2 H
  obtain⟨rfl,rfl⟩:=H
  go_enter Try.func60,Try.ntmps60
  go_wp2_with (first|((with_reducible refine gC 30 rfl ?_);refine gL 14 Try.func30 #[.slice A0 l0.length c0] ?_;(with_reducible refine(fag.calls k _ _ l0 zo _ ?s1 HC0.out A3.out).mono ?_);(case s1=>exact pC HR0.out);rintro e w' ⟨rfl,⟨nd,rfl⟩⟩;refine⟨_,rfl,?_⟩)|((with_reducible refine gC 30 rfl ?_);refine gL 16 Try.func30 #[.slice A1 l1.length c1] ?_;(with_reducible refine(fag.calls k _ _ l1 zp _ ?s1 HC1.out A4.out).mono ?_);(case s1=>exact pC HR1.out);rintro e w' ⟨rfl,⟨nd,rfl⟩⟩;refine⟨_,rfl,?_⟩))
  go_ret2
  exact⟨_,pE,pN,qB HB⟩
 rw[ip c6] at H
 have z9:=bT c6
 have zaa:=nF c6
 clear c6
 have HC7:=aM H
 clear H
 go_enter Try.func60,Try.ntmps60
 go_upto_region 7 with(first|((with_reducible refine gC 30 rfl ?_);refine gL 14 Try.func30 #[.slice A0 l0.length c0] ?_;(with_reducible refine(fag.calls k _ _ l0 zo _ ?s1 HC0.out A3.out).mono ?_);(case s1=>exact pC HR0.out);rintro e w' ⟨rfl,⟨nd,rfl⟩⟩;refine⟨_,rfl,?_⟩)|((with_reducible refine gC 30 rfl ?_);refine gL 16 Try.func30 #[.slice A1 l1.length c1] ?_;(with_reducible refine(fag.calls k _ _ l1 zp _ ?s1 HC1.out A4.out).mono ?_);(case s1=>exact pC HR1.out);rintro e w' ⟨rfl,⟨nd,rfl⟩⟩;refine⟨_,rfl,?_⟩))
 (try simp only[Act.put,sP])
 go_cut [32] (fun v32 wc=>∃ (kq:Nat) (ym:Bool),v32=.bool ym∧Aside0 (fbf.j0 kq l0 l1 (l0.length:Int) (l1.length:Int) ym=some (r1,r2))∧Aside0 (kq≤k)∧Aside0 (Below w.heap.size w wc))
 case first =>
  have H:=HC7.out
  clear HC7
  by_cases c8:(l0.length:Int)<2
  ·rw[ip c8] at H
   have z3:=dT c8
   have y9:decide (l0.length<2)=true:=decide_eq_true (by omega)
   clear c8
   (first|rw[z3]|(simp only[i64_w,i32_w];rw[z3])|skip)
   have H':=aM H
   clear H
   go_wp2
   go_meet
   case rel=>exact⟨_,(true),(pF),H',⟨pO⟩,⟨qB HB⟩⟩
  rw[iN c8] at H
  have z3:=dF c8
  have y9:decide (l0.length<2)=false:=decide_eq_false (by omega)
  clear c8
  (first|rw[z3]|(simp only[i64_w,i32_w];rw[z3])|skip)
  have H':=aM H
  clear H
  go_wp2
  go_meet
  case rel=>exact⟨_,(decide ((l1.length:Int)<2)),(pF),H',⟨pO⟩,⟨qB HB⟩⟩
 clear HC7
 try clear c1
 try clear z7
 try clear z8
 try clear z9
 try clear zaa
 obtain⟨kq,ym,rfl,HA,HJ6,HB⟩:=hcut
 cases kq with
 | zero=>exact absurd HA.out (by simp[fbf.j0])
 | succ kj6=>?_
 have H:=HA.out
 clear HA
 simp only[fbf.j0] at H
 by_cases c9:ym=true
 ·subst c9
  rw[ip rfl] at H
  replace H:=oi2 H
  obtain⟨rfl,rfl⟩:=H
  go_wp2
  go_ret2
  exact⟨_,pE,pN,qB HB⟩
 replace c9:=Bool.eq_false_iff.mpr c9
 subst c9
 rw[iN fT] at H
 obtain⟨ji10,hji10⟩:∃ j_:Int,(wrap64 ((l0.length:Int)-1))=j_:=⟨_,rfl⟩
 replace H:(if 0≤(ji10)then(if(ji10)<(l0.length:Int)then(if 0≤(wrap64 ((l1.length:Int)-2))then(if(wrap64 ((l1.length:Int)-2))<(l1.length:Int)then(if(rd l0 (ji10))=(rd l1 (wrap64 ((l1.length:Int)-2)))then(if 0≤(wrap64 ((l0.length:Int)-2))then(if(wrap64 ((l0.length:Int)-2))≤(l0.length:Int)then(if(wrap64 ((l1.length:Int)-2))≤(l1.length:Int)then((fat.f kj6 (l0.take ((wrap64 ((l0.length:Int)-2)):Int).toNat) (l1.take ((wrap64 ((l1.length:Int)-2)):Int).toNat)).bind fun bt1056=>(if bt1056.2=0 then((some (([]:List Int):List Int)).bind fun zk=>(if zk.length+bt1056.1.length<17592186044416 then((some (zk++bt1056.1:List Int)).bind fun zh=>(if(wrap64 ((l0.length:Int)-2))<(l0.length:Int)then(if 0≤(wrap64 ((l1.length:Int)-1))then(if(wrap64 ((l1.length:Int)-1))<(l1.length:Int)then((some (([rd l0 (wrap64 ((l0.length:Int)-2)),rd l1 (wrap64 ((l1.length:Int)-1))]:List Int):List Int)).bind fun zd=>(if zh.length+zd.length<17592186044416 then((some (zh++zd:List Int)).bind fun zg=>((fag.f kj6 zg).bind fun ze=>(if ze=0 then(some (zg,0))else(some (([]:List Int),ze)))))else(none)))else(none))else(none))else(none)))else(none)))else(some (([]:List Int),bt1056.2))))else(none))else(none))else(none))else(some (([]:List Int),8)))else(none))else(none))else(none))else(none))=some (r1,r2):=by first|(rw[hji10] at H;exact H)|(simp only[hji10] at H ⊢;exact H)
 have hji10w:(IntKind.i64.wrap ((l0.length:Int)-1))=ji10:=(i64_w _).trans hji10
 by_cases c11:0≤(ji10)
 rotate_left
 ·rw[iN c11] at H
  cases H
 rw[ip c11] at H
 have c11b0:=dT c11
 clear c11
 by_cases c12:(ji10)<(l0.length:Int)
 rotate_left
 ·rw[iN c12] at H
  cases H
 rw[ip c12] at H
 have c12b0:=dT c12
 clear c12
 obtain⟨ji13,hji13⟩:∃ j_:Int,(wrap64 ((l1.length:Int)-2))=j_:=⟨_,rfl⟩
 replace H:(if 0≤(ji13)then(if(ji13)<(l1.length:Int)then(if(rd l0 (ji10))=(rd l1 (ji13))then(if 0≤(wrap64 ((l0.length:Int)-2))then(if(wrap64 ((l0.length:Int)-2))≤(l0.length:Int)then(if(ji13)≤(l1.length:Int)then((fat.f kj6 (l0.take ((wrap64 ((l0.length:Int)-2)):Int).toNat) (l1.take ((ji13):Int).toNat)).bind fun bt1056=>(if bt1056.2=0 then((some (([]:List Int):List Int)).bind fun zk=>(if zk.length+bt1056.1.length<17592186044416 then((some (zk++bt1056.1:List Int)).bind fun zh=>(if(wrap64 ((l0.length:Int)-2))<(l0.length:Int)then(if 0≤(wrap64 ((l1.length:Int)-1))then(if(wrap64 ((l1.length:Int)-1))<(l1.length:Int)then((some (([rd l0 (wrap64 ((l0.length:Int)-2)),rd l1 (wrap64 ((l1.length:Int)-1))]:List Int):List Int)).bind fun zd=>(if zh.length+zd.length<17592186044416 then((some (zh++zd:List Int)).bind fun zg=>((fag.f kj6 zg).bind fun ze=>(if ze=0 then(some (zg,0))else(some (([]:List Int),ze)))))else(none)))else(none))else(none))else(none)))else(none)))else(some (([]:List Int),bt1056.2))))else(none))else(none))else(none))else(some (([]:List Int),8)))else(none))else(none))=some (r1,r2):=by first|(rw[hji13] at H;exact H)|(simp only[hji13] at H ⊢;exact H)
 have hji13w:(IntKind.i64.wrap ((l1.length:Int)-2))=ji13:=(i64_w _).trans hji13
 by_cases c14:0≤(ji13)
 rotate_left
 ·rw[iN c14] at H
  cases H
 rw[ip c14] at H
 have c14b0:=dT c14
 clear c14
 by_cases c15:(ji13)<(l1.length:Int)
 rotate_left
 ·rw[iN c15] at H
  cases H
 rw[ip c15] at H
 have c15b0:=dT c15
 clear c15
 by_cases c16:(rd l0 (ji10))=(rd l1 (ji13))
 rotate_left
 ·rw[iN c16] at H
  have yz:=bF c16
  have y0:=nT c16
  replace H:=oi2 H
  obtain⟨rfl,rfl⟩:=H
  try go_wp2
  replace HB:=aM (below_drew1 HB.out)
  obtain⟨yc,⟨⟩,ye,yn,yo⟩:=zI HR0.out (ji10)
  have yi:=zW HB ye
  obtain⟨yd,⟨⟩,yf,yp,yq⟩:=zI HR1.out (ji13)
  have yj:=zW HB yf
  refine sT 11 [] (fun w'=>w'.cell? (yc.add ((ji10)).toNat)=some (.int .i64 (rd l0 (ji10)))∧w'.cell? (yd.add ((ji13)).toNat)=some (.int .i64 (rd l1 (ji13)))) fbf.tab9 fbf.bits9 ⟨(zW HB ye),(zW HB yf)⟩ (fun hHeld HT_ HW_=>?_)
  generalize wc.drew=w69 at HB yi yj hHeld ⊢
  refine pQ 0 33 11 1 HT_ ?_
  refine pQ 1 34 11 3 HT_ ?_
  refine pQ 2 35 11 7 HT_ ?_
  refine pQ 3 36 11 15 HT_ ?_
  refine pQ 5 38 11 47 HT_ ?_
  refine pQ 6 39 11 111 HT_ ?_
  refine pQ 7 40 11 239 HT_ ?_
  refine pQ 8 41 11 495 HT_ ?_
  refine pU2 4 37 11 511 HT_ HW_ hHeld ?_
  refine pU2 9 42 11 1023 HT_ HW_ hHeld ?_
  refine pQ 10 43 11 2047 HT_ ?_
  refine dN HT_ ?_
  try go_wp2
  go_ret2
  exact⟨_,by first|rfl|(simp[errW_none,errW_some] <;> rfl)|(simp only[← hji10,← hji13];first|rfl|(simp[errW_none,errW_some] <;> rfl))|(simp[*,errW_none,errW_some] <;> rfl),pN,qB HB⟩
 rw[ip c16] at H
 have yz:=bT c16
 have y0:=nF c16
 clear c16
 obtain⟨ji17,hji17⟩:∃ j_:Int,(wrap64 ((l0.length:Int)-2))=j_:=⟨_,rfl⟩
 replace H:(if 0≤(ji17)then(if(ji17)≤(l0.length:Int)then(if(ji13)≤(l1.length:Int)then((fat.f kj6 (l0.take ((ji17):Int).toNat) (l1.take ((ji13):Int).toNat)).bind fun bt1056=>(if bt1056.2=0 then((some (([]:List Int):List Int)).bind fun zk=>(if zk.length+bt1056.1.length<17592186044416 then((some (zk++bt1056.1:List Int)).bind fun zh=>(if(ji17)<(l0.length:Int)then(if 0≤(wrap64 ((l1.length:Int)-1))then(if(wrap64 ((l1.length:Int)-1))<(l1.length:Int)then((some (([rd l0 (ji17),rd l1 (wrap64 ((l1.length:Int)-1))]:List Int):List Int)).bind fun zd=>(if zh.length+zd.length<17592186044416 then((some (zh++zd:List Int)).bind fun zg=>((fag.f kj6 zg).bind fun ze=>(if ze=0 then(some (zg,0))else(some (([]:List Int),ze)))))else(none)))else(none))else(none))else(none)))else(none)))else(some (([]:List Int),bt1056.2))))else(none))else(none))else(none))=some (r1,r2):=by first|(rw[hji17] at H;exact H)|(simp only[hji17] at H ⊢;exact H)
 have hji17w:(IntKind.i64.wrap ((l0.length:Int)-2))=ji17:=(i64_w _).trans hji17
 by_cases c18:0≤(ji17)
 rotate_left
 ·rw[iN c18] at H
  cases H
 rw[ip c18] at H
 have c18b0:=eq_true c18
 have c18b1:=dT c18
 clear c18
 by_cases c19:(ji17)≤(l0.length:Int)
 rotate_left
 ·rw[iN c19] at H
  cases H
 rw[ip c19] at H
 have c19b0:=eq_true c19
 have c19b1:=dT c19
 clear c19
 have c20b0:=eq_true (of_decide_eq_true pD:0≤(ji13))
 by_cases c21:(ji13)≤(l1.length:Int)
 rotate_left
 ·rw[iN c21] at H
  cases H
 rw[ip c21] at H
 have c21b0:=eq_true c21
 have c21b1:=dT c21
 clear c21
 replace H:=oB H
 obtain⟨⟨zc,zx⟩,zab,H⟩:=H
 try dsimp only at H
 have A22:=aM zab
 clear zab
 by_cases c23:zx=0
 rotate_left
 ·rw[iN c23] at H
  have y1:=bF c23
  have y2:=nT c23
  replace H:=oi2 H
  obtain⟨rfl,rfl⟩:=H
  try go_wp2
  replace HB:=aM (below_drew1 HB.out)
  obtain⟨yc,⟨⟩,ye,yn,yo⟩:=zI HR0.out (ji10)
  have yi:=zW HB ye
  obtain⟨yd,⟨⟩,yf,yp,yq⟩:=zI HR1.out (ji13)
  have yj:=zW HB yf
  refine sT 11 [] (fun w'=>w'.cell? (yc.add ((ji10)).toNat)=some (.int .i64 (rd l0 (ji10)))∧w'.cell? (yd.add ((ji13)).toNat)=some (.int .i64 (rd l1 (ji13)))) fbf.tab9 fbf.bits9 ⟨(zW HB ye),(zW HB yf)⟩ (fun hHeld HT_ HW_=>?_)
  generalize wc.drew=w64 at HB yi yj hHeld ⊢
  refine pQ 0 33 11 1 HT_ ?_
  refine pQ 1 34 11 3 HT_ ?_
  refine pQ 2 35 11 7 HT_ ?_
  refine pQ 3 36 11 15 HT_ ?_
  refine pQ 5 38 11 47 HT_ ?_
  refine pQ 6 39 11 111 HT_ ?_
  refine pQ 7 40 11 239 HT_ ?_
  refine pQ 8 41 11 495 HT_ ?_
  refine pU2 4 37 11 511 HT_ HW_ hHeld ?_
  refine pU2 9 42 11 1023 HT_ HW_ hHeld ?_
  refine pQ 10 43 11 2047 HT_ ?_
  refine dN HT_ ?_
  try go_wp2
  replace HB:=aM (below_drew1 HB.out)
  obtain⟨i066,yt,_,hsz66,_⟩:=info_parts info3
  obtain⟨hcut66,hA66,hC66⟩:=print_take_of (P:=Try.prog) (Value.int .i64) 0 22 3 .i64 Try.underlying22 yt hsz66 (some yc) c0 l0 (ji17) (of_decide_eq_true pD) (of_decide_eq_true pD) HC0.out
  have HTK66:Aside0 (((ji17):Int).toNat=(l0.take ((ji17):Int).toNat).length):=⟨by have h1_:((ji17):Int)≤(l0.length:Int):=oD;have h0_:0≤((ji17):Int):=oD;rw[List.length_take];omega⟩
  have HR1054:=aM (Kd.C_of_reads (h1:=fun _=>rfl) (hA66 _ (Kd.reads_of_C HR0.out)))
  have HC1054:=aM hC66
  clear hA66 hC66 yt hsz66
  obtain⟨i067,yu,_,hsz67,_⟩:=info_parts info3
  obtain⟨hcut67,hA67,hC67⟩:=print_take_of (P:=Try.prog) (Value.int .i64) 0 22 3 .i64 Try.underlying22 yu hsz67 (some yd) c1 l1 (ji13) (of_decide_eq_true pD) (of_decide_eq_true pD) HC1.out
  have HTK67:Aside0 (((ji13):Int).toNat=(l1.take ((ji13):Int).toNat).length):=⟨by have h1_:((ji13):Int)≤(l1.length:Int):=oD;have h0_:0≤((ji13):Int):=oD;rw[List.length_take];omega⟩
  have HR1055:=aM (Kd.C_of_reads (h1:=fun _=>rfl) (hA67 _ (Kd.reads_of_C HR1.out)))
  have HC1055:=aM hC67
  clear hA67 hC67 yu hsz67
  refine sT 14 [] (fun w'=>True) fbf.tab11 fbf.bits11 trivial (fun hHeld HT_ HW_=>?_)
  generalize w64.drew=w65 at HB HR1054 HR1055 hHeld ⊢
  refine pQ 0 45 14 1 HT_ ?_
  refine pQ 1 46 14 3 HT_ ?_
  refine pQ 2 47 14 7 HT_ ?_
  refine pQ 3 48 14 15 HT_ ?_
  refine pQ 4 49 14 31 HT_ ?_
  refine pQ 5 50 14 63 HT_ ?_
  refine pQ 6 51 14 127 HT_ ?_
  refine pQ 7 52 14 255 HT_ ?_
  refine oN 8 53 14 511 HT_ (fun K hK=>?_)
  refine goes_ Try.func79 (by kernel_rfl) rfl #[.slice (some yc) (l0.take ((ji17):Int).toNat).length c0,.slice (some yd) (l1.take ((ji13):Int).toNat).length c1] (by rfl) rfl rfl (by(try simp only[List.map_toArray,List.map_cons,List.map_nil]);first|done|(rw[show (l0.take ((ji17):Int).toNat).length=(ji17).toNat from (by rw[List.length_take];have h_:((ji17):Int)≤(l0.length:Int):=oD;omega),show (l1.take ((ji13):Int).toNat).length=(ji13).toNat from (by rw[List.length_take];have h_:((ji13):Int)≤(l1.length:Int):=oD;omega)] <;> rfl)|(rw[show (l0.take ((ji17):Int).toNat).length=(ji17).toNat from (by rw[List.length_take];have h_:((ji17):Int)≤(l0.length:Int):=oD;omega)] <;> rfl)|(rw[show (l1.take ((ji13):Int).toNat).length=(ji13).toNat from (by rw[List.length_take];have h_:((ji13):Int)≤(l1.length:Int):=oD;omega)] <;> rfl)|(simp only[hji13,hji17];rfl)|rfl|(simp only[List.length_drop,List.length_take];rfl)) ?_
  with_reducible refine(fat.calls kj6 (fun k_=>k_<w.heap.size) _ _ (l0.take ((ji17):Int).toNat) (fun k_=>k_<w.heap.size) _ _ (l1.take ((ji13):Int).toNat) zc zx _ ?s1 ?s2 A22.out).mono ?_
  (case s1=>exact Kd.V_mk HC1054.out (Kd.F_below (Kd.C_F (Kd.heap_int .i64) HR1054.out) (qB HB)))
  (case s2=>exact Kd.V_mk HC1055.out (Kd.F_below (Kd.C_F (Kd.heap_int .i64) HR1055.out) (qB HB)))
  rintro e w68 ⟨z5,rfl,ho0,hb⟩
  refine⟨_,rfl,?_⟩
  have za:=aM (Kd.R_lower (Kd.R_mono (ok':=fun k_=>True) ho0 (fun _ hk_=>trivial)) (below_size (qB HB)))
  replace HB:=bS (qB HB) hb
  refine hK.out _ _ trivial (fun hHeld=>?_)
  clear hK K
  refine nM 53 ?_
  refine pQ 9 44 14 1023 HT_ ?_
  refine pQ 10 54 14 2047 HT_ ?_
  refine pQ 11 55 14 4095 HT_ ?_
  refine pQ 12 10 14 8191 HT_ ?_
  refine pQ 13 11 14 16383 HT_ ?_
  refine dN HT_ ?_
  try go_wp2
  go_ret2
  exact⟨_,by first|rfl|(simp[errW_none,errW_some] <;> rfl)|(simp only[← hji10,← hji13,← hji17];first|rfl|(simp[errW_none,errW_some] <;> rfl))|(simp[*,errW_none,errW_some] <;> rfl),pN,qB HB⟩
 rw[ip c23] at H
 have y1:=bT c23
 have y2:=nF c23
 clear c23
 obtain⟨zk,zz⟩:∃ y_:List Int,y_=(([]:List Int)):=⟨_,rfl⟩
 replace H:(if zk.length+zc.length<17592186044416 then((some (zk++zc:List Int)).bind fun zh=>(if(ji17)<(l0.length:Int)then(if 0≤(wrap64 ((l1.length:Int)-1))then(if(wrap64 ((l1.length:Int)-1))<(l1.length:Int)then((some (([rd l0 (ji17),rd l1 (wrap64 ((l1.length:Int)-1))]:List Int):List Int)).bind fun zd=>(if zh.length+zd.length<17592186044416 then((some (zh++zd:List Int)).bind fun zg=>((fag.f kj6 zg).bind fun ze=>(if ze=0 then(some (zg,0))else(some (([]:List Int),ze)))))else(none)))else(none))else(none))else(none)))else(none))=some (r1,r2):=pH zz H
 have zq:=aM zz
 clear zz
 by_cases c24:zk.length+zc.length<17592186044416
 rotate_left
 ·rw[iN c24] at H
  cases H
 rw[ip c24] at H
 have zy:=aM c24
 clear c24
 obtain⟨zh,z0⟩:∃ y_:List Int,y_=(zk++zc):=⟨_,rfl⟩
 replace H:(if(ji17)<(l0.length:Int)then(if 0≤(wrap64 ((l1.length:Int)-1))then(if(wrap64 ((l1.length:Int)-1))<(l1.length:Int)then((some (([rd l0 (ji17),rd l1 (wrap64 ((l1.length:Int)-1))]:List Int):List Int)).bind fun zd=>(if zh.length+zd.length<17592186044416 then((some (zh++zd:List Int)).bind fun zg=>((fag.f kj6 zg).bind fun ze=>(if ze=0 then(some (zg,0))else(some (([]:List Int),ze)))))else(none)))else(none))else(none))else(none))=some (r1,r2):=pH z0 H
 have zs:=aM z0
 clear z0
 by_cases c25:(ji17)<(l0.length:Int)
 rotate_left
 ·rw[iN c25] at H
  cases H
 rw[ip c25] at H
 have c25b0:=dT c25
 clear c25
 obtain⟨ji26,hji26⟩:∃ j_:Int,(wrap64 ((l1.length:Int)-1))=j_:=⟨_,rfl⟩
 replace H:(if 0≤(ji26)then(if(ji26)<(l1.length:Int)then((some (([rd l0 (ji17),rd l1 (ji26)]:List Int):List Int)).bind fun zd=>(if zh.length+zd.length<17592186044416 then((some (zh++zd:List Int)).bind fun zg=>((fag.f kj6 zg).bind fun ze=>(if ze=0 then(some (zg,0))else(some (([]:List Int),ze)))))else(none)))else(none))else(none))=some (r1,r2):=by first|(rw[hji26] at H;exact H)|(simp only[hji26] at H ⊢;exact H)
 (try rw[hji26] at A22)
 have hji26w:(IntKind.i64.wrap ((l1.length:Int)-1))=ji26:=(i64_w _).trans hji26
 by_cases c27:0≤(ji26)
 rotate_left
 ·rw[iN c27] at H
  cases H
 rw[ip c27] at H
 have c27b0:=dT c27
 clear c27
 by_cases c28:(ji26)<(l1.length:Int)
 rotate_left
 ·rw[iN c28] at H
  cases H
 rw[ip c28] at H
 have c28b0:=dT c28
 clear c28
 obtain⟨zd,z1⟩:∃ y_:List Int,y_=(([rd l0 (ji17),rd l1 (ji26)]:List Int)):=⟨_,rfl⟩
 replace H:(if zh.length+zd.length<17592186044416 then((some (zh++zd:List Int)).bind fun zg=>((fag.f kj6 zg).bind fun ze=>(if ze=0 then(some (zg,0))else(some (([]:List Int),ze)))))else(none))=some (r1,r2):=pH z1 H
 have zn:=aM z1
 clear z1
 by_cases c29:zh.length+zd.length<17592186044416
 rotate_left
 ·rw[iN c29] at H
  cases H
 rw[ip c29] at H
 have z6:=aM c29
 clear c29
 obtain⟨zg,z2⟩:∃ y_:List Int,y_=(zh++zd):=⟨_,rfl⟩
 replace H:((fag.f kj6 zg).bind fun ze=>(if ze=0 then(some (zg,0))else(some (([]:List Int),ze))))=some (r1,r2):=pH z2 H
 have z4:=aM z2
 clear z2
 replace H:=oB H
 obtain⟨ze,zac,H⟩:=H
 try dsimp only at H
 have A30:=aM zac
 clear zac
 by_cases c31:ze=0
 rotate_left
 ·rw[iN c31] at H
  have y3:=bF c31
  have y4:=nT c31
  replace H:=oi2 H
  obtain⟨rfl,rfl⟩:=H
  try go_wp2
  replace HB:=aM (below_drew1 HB.out)
  obtain⟨yc,⟨⟩,ye,yn,yo⟩:=zI HR0.out (ji10)
  have yi:=zW HB ye
  obtain⟨yd,⟨⟩,yf,yp,yq⟩:=zI HR1.out (ji13)
  have yj:=zW HB yf
  refine sT 11 [] (fun w'=>w'.cell? (yc.add ((ji10)).toNat)=some (.int .i64 (rd l0 (ji10)))∧w'.cell? (yd.add ((ji13)).toNat)=some (.int .i64 (rd l1 (ji13)))) fbf.tab9 fbf.bits9 ⟨(zW HB ye),(zW HB yf)⟩ (fun hHeld HT_ HW_=>?_)
  generalize wc.drew=w48 at HB yi yj hHeld ⊢
  refine pQ 0 33 11 1 HT_ ?_
  refine pQ 1 34 11 3 HT_ ?_
  refine pQ 2 35 11 7 HT_ ?_
  refine pQ 3 36 11 15 HT_ ?_
  refine pQ 5 38 11 47 HT_ ?_
  refine pQ 6 39 11 111 HT_ ?_
  refine pQ 7 40 11 239 HT_ ?_
  refine pQ 8 41 11 495 HT_ ?_
  refine pU2 4 37 11 511 HT_ HW_ hHeld ?_
  refine pU2 9 42 11 1023 HT_ HW_ hHeld ?_
  refine pQ 10 43 11 2047 HT_ ?_
  refine dN HT_ ?_
  try go_wp2
  replace HB:=aM (below_drew1 HB.out)
  obtain⟨i050,yv,_,hsz50,_⟩:=info_parts info3
  obtain⟨hcut50,hA50,hC50⟩:=print_take_of (P:=Try.prog) (Value.int .i64) 0 22 3 .i64 Try.underlying22 yv hsz50 (some yc) c0 l0 (ji17) (of_decide_eq_true pD) (of_decide_eq_true pD) HC0.out
  have HTK50:Aside0 (((ji17):Int).toNat=(l0.take ((ji17):Int).toNat).length):=⟨by have h1_:((ji17):Int)≤(l0.length:Int):=oD;have h0_:0≤((ji17):Int):=oD;rw[List.length_take];omega⟩
  have HR1054:=aM (Kd.C_of_reads (h1:=fun _=>rfl) (hA50 _ (Kd.reads_of_C HR0.out)))
  have HC1054:=aM hC50
  clear hA50 hC50 yv hsz50
  obtain⟨i051,yw,_,hsz51,_⟩:=info_parts info3
  obtain⟨hcut51,hA51,hC51⟩:=print_take_of (P:=Try.prog) (Value.int .i64) 0 22 3 .i64 Try.underlying22 yw hsz51 (some yd) c1 l1 (ji13) (of_decide_eq_true pD) (of_decide_eq_true pD) HC1.out
  have HTK51:Aside0 (((ji13):Int).toNat=(l1.take ((ji13):Int).toNat).length):=⟨by have h1_:((ji13):Int)≤(l1.length:Int):=oD;have h0_:0≤((ji13):Int):=oD;rw[List.length_take];omega⟩
  have HR1055:=aM (Kd.C_of_reads (h1:=fun _=>rfl) (hA51 _ (Kd.reads_of_C HR1.out)))
  have HC1055:=aM hC51
  clear hA51 hC51 yw hsz51
  refine sT 14 [] (fun w'=>True) fbf.tab11 fbf.bits11 trivial (fun hHeld HT_ HW_=>?_)
  generalize w48.drew=w49 at HB HR1054 HR1055 hHeld ⊢
  refine pQ 0 45 14 1 HT_ ?_
  refine pQ 1 46 14 3 HT_ ?_
  refine pQ 2 47 14 7 HT_ ?_
  refine pQ 3 48 14 15 HT_ ?_
  refine pQ 4 49 14 31 HT_ ?_
  refine pQ 5 50 14 63 HT_ ?_
  refine pQ 6 51 14 127 HT_ ?_
  refine pQ 7 52 14 255 HT_ ?_
  refine oN 8 53 14 511 HT_ (fun K hK=>?_)
  refine goes_ Try.func79 (by kernel_rfl) rfl #[.slice (some yc) (l0.take ((ji17):Int).toNat).length c0,.slice (some yd) (l1.take ((ji13):Int).toNat).length c1] (by rfl) rfl rfl (by(try simp only[List.map_toArray,List.map_cons,List.map_nil]);first|done|(rw[show (l0.take ((ji17):Int).toNat).length=(ji17).toNat from (by rw[List.length_take];have h_:((ji17):Int)≤(l0.length:Int):=oD;omega),show (l1.take ((ji13):Int).toNat).length=(ji13).toNat from (by rw[List.length_take];have h_:((ji13):Int)≤(l1.length:Int):=oD;omega)] <;> rfl)|(rw[show (l0.take ((ji17):Int).toNat).length=(ji17).toNat from (by rw[List.length_take];have h_:((ji17):Int)≤(l0.length:Int):=oD;omega)] <;> rfl)|(rw[show (l1.take ((ji13):Int).toNat).length=(ji13).toNat from (by rw[List.length_take];have h_:((ji13):Int)≤(l1.length:Int):=oD;omega)] <;> rfl)|(simp only[hji13,hji17];rfl)|rfl|(simp only[List.length_drop,List.length_take];rfl)) ?_
  with_reducible refine(fat.calls kj6 (fun k_=>k_<w.heap.size) _ _ (l0.take ((ji17):Int).toNat) (fun k_=>k_<w.heap.size) _ _ (l1.take ((ji13):Int).toNat) zc zx _ ?s1 ?s2 A22.out).mono ?_
  (case s1=>exact Kd.V_mk HC1054.out (Kd.F_below (Kd.C_F (Kd.heap_int .i64) HR1054.out) (qB HB)))
  (case s2=>exact Kd.V_mk HC1055.out (Kd.F_below (Kd.C_F (Kd.heap_int .i64) HR1055.out) (qB HB)))
  rintro e w52 ⟨z5,rfl,ho0,hb⟩
  refine⟨_,rfl,?_⟩
  have za:=aM (Kd.R_lower (Kd.R_mono (ok':=fun k_=>True) ho0 (fun _ hk_=>trivial)) (below_size (qB HB)))
  replace HB:=bS (qB HB) hb
  refine hK.out _ _ trivial (fun hHeld=>?_)
  clear hK K
  refine nM 53 ?_
  refine pQ 9 44 14 1023 HT_ ?_
  refine pQ 10 54 14 2047 HT_ ?_
  refine pQ 11 55 14 4095 HT_ ?_
  refine pQ 12 10 14 8191 HT_ ?_
  refine pQ 13 11 14 16383 HT_ ?_
  refine dN HT_ ?_
  obtain⟨zt,zu,yaa⟩:=Kd.R_slice za.out
  subst yaa
  try go_wp2
  replace za:=aM (Kd.R_drew za.out)
  replace HB:=aM (below_drew1 HB.out)
  obtain⟨yk,yr,yg,y5,y6⟩:=zI HR0.out (ji17)
  have ya:=yg
  obtain rfl:yc=yk:=(by injection yr)
  replace yg:=zW HB yg
  obtain⟨yl,ys,yh,y7,y8⟩:=zI HR1.out (ji26)
  have yb:=yh
  obtain rfl:yd=yl:=(by injection ys)
  replace yh:=zW HB yh
  refine sT 16 [] (fun w'=>w'.cell? (yc.add ((ji17)).toNat)=some (.int .i64 (rd l0 (ji17)))∧w'.cell? (yd.add ((ji26)).toNat)=some (.int .i64 (rd l1 (ji26)))) fbf.tab14 fbf.bits14 ⟨(zW HB ya),(zW HB yb)⟩ (fun hHeld HT_ HW_=>?_)
  generalize w52.drew=w54 at za HB yg yh hHeld ⊢
  refine pQ 1 60 16 2 HT_ ?_
  refine pQ 3 62 16 10 HT_ ?_
  refine pQ 4 63 16 26 HT_ ?_
  refine pQ 5 64 16 58 HT_ ?_
  refine pQ 6 65 16 122 HT_ ?_
  refine pQ 8 67 16 378 HT_ ?_
  refine pQ 9 68 16 890 HT_ ?_
  refine pQ 10 69 16 1914 HT_ ?_
  refine pQ 11 70 16 3962 HT_ ?_
  refine pU2 7 66 16 4090 HT_ HW_ hHeld ?_
  refine pU2 12 71 16 8186 HT_ HW_ hHeld ?_
  refine join_ (σ:=Value×Value×Value) 2 (bm 16 16383) (fun s_=>[(59,s_.1),(61,s_.2.1),(72,s_.2.2)]) (fun s_ w'=>(w'.cell? (yc.add ((ji17)).toNat)=some (.int .i64 (rd l0 (ji17)))∧w'.cell? (yd.add ((ji26)).toNat)=some (.int .i64 (rd l1 (ji26))))∧(Kd.R (Kd.int .i64) 3 w' w.heap.size (fun k_=>some k_≠(s_.2.1:Value).ownBlock∧some k_≠(s_.2.2:Value).ownBlock) (.slice zt zc.length zu) zc)∧(Kd.R (Kd.int .i64) 3 w' w.heap.size (fun k_=>some k_≠(.slice zt zc.length zu:Value).ownBlock∧some k_≠(s_.2.2:Value).ownBlock) s_.2.1 zh)∧(Kd.R (Kd.int .i64) 3 w' w.heap.size (fun k_=>some k_≠(.slice zt zc.length zu:Value).ownBlock∧some k_≠(s_.2.1:Value).ownBlock) s_.2.2 zd)∧(Below w.heap.size w w')) ?_ ?_
  rotate_left
  ·intro hCont
   refine two_ (i:=0) (j:=13) (Ni:=some 59) (Nj:=some 72) (bm 16 8187) (bm 16 16378) rfl rfl rfl rfl (two_of HT_.out (by kernel_rfl)) (by decide) (by decide) (fun K hK=>?_) (fun K hK=>?_)
   ·skip
    refine Kd.R_lit_step (Kd.int .i64) _ 3 ?hg (N:=59) ?hd (xs:=([]:List Int)) (inner:=[]) (ok:=fun _=>True) (okp:=fun _=>True) ?hr ?hp (fun _ hk=>hk) trivial (Below.refl _ _) (Nat.le_refl _) (by simp) ?_;(case hd=>rfl);(case hg=>rfl);(case hr=>first|(go_simp;done)|(go_simp;rfl));(case hp=>exact(Reps.none _ _))
    intro zm w55 ho56 hb hg_ hnew_
    clear hg_ hnew_
    (first|rw[← zq.out] at ho56|(simp only[Int.reduceToNat] at ho56;rw[← zq.out] at ho56))
    have zi:=aM (Kd.R_lower (Kd.R_new' ho56 (Kd.R_lt (pR za.out))) (below_size (qB HB)))
    replace za:=eR za ho56 hb
    replace HB:=bS (qB HB) hb
    clear hb ho56
    refine hK.out _ _ ⟨(zW HB ya),(zW HB yb)⟩ (fun hHeld=>?_)
    clear hK K
    refine nM 59 ?_
    refine two_ (i:=2) (j:=13) (Ni:=some 61) (Nj:=some 72) (bm 16 8191) (bm 16 16379) rfl rfl rfl rfl (two_of HT_.out (by kernel_rfl)) (by decide) (by decide) (fun K hK=>?_) (fun K hK=>?_)
    ·skip
     refine Kd.R_append_rows_step (Kd.int .i64) (w0:=w) w.heap.size (by rfl) (.tmp 59) (.tmp 60) 22 3 (.int .i64 0) 8 rfl Try.underlying22 info3 rfl (by decide) (by omega) zm zk zc _ _ _ (fun k_=>some k_≠(.slice zt zc.length zu:Value).ownBlock) (fun _=>False) rfl rfl ?aO ?aR (fun _ _ h=>h) (fun _ h=>h.elim) ?aF ?aB ?aS ?aL ?_
     (case aR=>exact sR za)
     (case aB=>exact(qB HB))
     (case aF=>exact(fun k_ hk=>Kd.fresh' (Kd.R_lt (pR za.out)) k_ hk))
     (case aO=>exact(by(with_reducible repeat(first|apply rA|apply rN|apply rD));exact Kd.R_mono zi.out (fun _ hk=>hk.2)))
     (case aS=>exact(below_size (qB HB)))
     (case aL=>have:=zy.out;omega)
     intro zl w57 ho hb hg hat
     rw[← zs.out] at ho
     replace za:=aM (Kd.R_after (ok:=(fun _=>True)) (pR za.out) hg hat)
     replace HB:=aM (hb)
     have zf:=aM (ho)
     clear zi
     clear ho hb hg hat
     refine hK.out _ _ ⟨(zW HB ya),(zW HB yb)⟩ (fun hHeld=>?_)
     clear hK K
     refine nM 61 ?_
     refine oN 13 72 16 16383 HT_ (fun K hK=>?_)
     refine Kd.R_lit_step (Kd.int .i64) _ 3 ?hg (N:=72) ?hd (xs:=([rd l0 (ji17),rd l1 (ji26)]:List Int)) (inner:=[.int .i64 (rd l0 (ji17)),.int .i64 (rd l1 (ji26))]) (ok:=fun _=>True) (okp:=fun _=>True) ?hr ?hp (fun _ hk=>hk) trivial (Below.refl _ _) (Nat.le_refl _) (by simp) ?_;(case hd=>rfl);(case hg=>rfl);(case hr=>first|(go_simp;done)|(go_simp;rfl));(case hp=>exact(Reps.one (show Kd.M (Kd.int .i64) _ _ _ (rd l0 (ji17)) [.int .i64 (rd l0 (ji17))] from rfl) (Reps.one (show Kd.M (Kd.int .i64) _ _ _ (rd l1 (ji26)) [.int .i64 (rd l1 (ji26))] from rfl) (Reps.none _ _))))
     intro zj w58 ho59 hb hg_ hnew_
     clear hg_ hnew_
     (first|rw[← zn.out] at ho59|(simp only[Int.reduceToNat] at ho59;rw[← zn.out] at ho59))
     have zb:=aM (Kd.R_lower (Kd.R_new' (Kd.R_new' ho59 (Kd.R_lt (pR za.out))) (Kd.R_lt (pR zf.out))) (below_size (qB HB)))
     replace za:=eR za ho59 hb
     replace zf:=eR zf ho59 hb
     replace HB:=bS (qB HB) hb
     clear hb ho59
     refine hK.out _ _ ⟨(zW HB ya),(zW HB yb)⟩ (fun hHeld=>?_)
     clear hK K
     refine nM 72 ?_
     exact norm_ (by simp only[putAll,Act.put,sP]) (hCont (zm,zl,zj) _ ⟨hHeld,(by(with_reducible repeat(first|apply rA|apply rN|apply rD));exact Kd.R_mono za.out (fun _ hk=>⟨hk.1.2,hk.2⟩)),(pR zf.out),(by(with_reducible repeat(first|apply rA|apply rN|apply rD));exact Kd.R_mono zb.out (fun _ hk=>⟨hk.1.2,hk.2⟩)),(qB HB)⟩)
    ·skip
     refine Kd.R_lit_step (Kd.int .i64) _ 3 ?hg (N:=72) ?hd (xs:=([rd l0 (ji17),rd l1 (ji26)]:List Int)) (inner:=[.int .i64 (rd l0 (ji17)),.int .i64 (rd l1 (ji26))]) (ok:=fun _=>True) (okp:=fun _=>True) ?hr ?hp (fun _ hk=>hk) trivial (Below.refl _ _) (Nat.le_refl _) (by simp) ?_;(case hd=>rfl);(case hg=>rfl);(case hr=>first|(go_simp;done)|(go_simp;rfl));(case hp=>exact(Reps.one (show Kd.M (Kd.int .i64) _ _ _ (rd l0 (ji17)) [.int .i64 (rd l0 (ji17))] from rfl) (Reps.one (show Kd.M (Kd.int .i64) _ _ _ (rd l1 (ji26)) [.int .i64 (rd l1 (ji26))] from rfl) (Reps.none _ _))))
     intro zj w57 ho58 hb hg_ hnew_
     clear hg_ hnew_
     (first|rw[← zn.out] at ho58|(simp only[Int.reduceToNat] at ho58;rw[← zn.out] at ho58))
     have zb:=aM (Kd.R_lower (Kd.R_new' (Kd.R_new' ho58 (Kd.R_lt (pR za.out))) (Kd.R_lt (pR zi.out))) (below_size (qB HB)))
     replace za:=eR za ho58 hb
     replace zi:=eR zi ho58 hb
     replace HB:=bS (qB HB) hb
     clear hb ho58
     refine hK.out _ _ ⟨(zW HB ya),(zW HB yb)⟩ (fun hHeld=>?_)
     clear hK K
     refine nM 72 ?_
     refine oN 2 61 16 16383 HT_ (fun K hK=>?_)
     refine Kd.R_append_rows_step (Kd.int .i64) (w0:=w) w.heap.size (by rfl) (.tmp 59) (.tmp 60) 22 3 (.int .i64 0) 8 rfl Try.underlying22 info3 rfl (by decide) (by omega) zm zk zc _ _ _ (fun k_=>some k_≠(.slice zt zc.length zu:Value).ownBlock∧some k_≠(zj:Value).ownBlock) (fun _=>False) rfl rfl ?aO ?aR (fun _ _ h=>h) (fun _ h=>h.elim) ?aF ?aB ?aS ?aL ?_
     (case aR=>exact sR za)
     (case aB=>exact(qB HB))
     (case aF=>exact(fun k_ hk=>⟨Kd.fresh' (Kd.R_lt (pR za.out)) k_ hk,Kd.fresh' (Kd.R_lt (pR zb.out)) k_ hk⟩))
     (case aO=>exact(by(with_reducible repeat(first|apply rA|apply rN|apply rD));exact Kd.R_mono zi.out (fun _ hk=>⟨hk.1.2,hk.2⟩)))
     (case aS=>exact(below_size (qB HB)))
     (case aL=>have:=zy.out;omega)
     intro zl w59 ho hb hg hat
     rw[← zs.out] at ho
     replace za:=aM (Kd.R_after (ok:=(fun k_=>some k_≠(zj:Value).ownBlock)) (by(with_reducible repeat(first|apply rA|apply rN|apply rD));exact Kd.R_mono za.out (fun _ hk=>⟨hk.2,hk.1.2⟩)) hg hat)
     replace zb:=aM (Kd.R_after (ok:=(fun k_=>some k_≠(.slice zt zc.length zu:Value).ownBlock)) (by(with_reducible repeat(first|apply rA|apply rN|apply rD));exact Kd.R_mono zb.out (fun _ hk=>⟨hk.1.2,hk.2⟩)) hg hat)
     replace HB:=aM (hb)
     have zf:=aM (ho)
     clear zi
     clear ho hb hg hat
     refine hK.out _ _ ⟨(zW HB ya),(zW HB yb)⟩ (fun hHeld=>?_)
     clear hK K
     refine nM 61 ?_
     exact norm_ (by simp only[putAll,Act.put,sP]) (hCont (zm,zl,zj) _ ⟨hHeld,(by(with_reducible repeat(first|apply rA|apply rN|apply rD));exact Kd.R_mono za.out (fun _ hk=>⟨hk.2,hk.1⟩)),(pR zf.out),(pR zb.out),(qB HB)⟩)
   ·skip
    refine Kd.R_lit_step (Kd.int .i64) _ 3 ?hg (N:=72) ?hd (xs:=([rd l0 (ji17),rd l1 (ji26)]:List Int)) (inner:=[.int .i64 (rd l0 (ji17)),.int .i64 (rd l1 (ji26))]) (ok:=fun _=>True) (okp:=fun _=>True) ?hr ?hp (fun _ hk=>hk) trivial (Below.refl _ _) (Nat.le_refl _) (by simp) ?_;(case hd=>rfl);(case hg=>rfl);(case hr=>first|(go_simp;done)|(go_simp;rfl));(case hp=>exact(Reps.one (show Kd.M (Kd.int .i64) _ _ _ (rd l0 (ji17)) [.int .i64 (rd l0 (ji17))] from rfl) (Reps.one (show Kd.M (Kd.int .i64) _ _ _ (rd l1 (ji26)) [.int .i64 (rd l1 (ji26))] from rfl) (Reps.none _ _))))
    intro zj w55 ho56 hb hg_ hnew_
    clear hg_ hnew_
    (first|rw[← zn.out] at ho56|(simp only[Int.reduceToNat] at ho56;rw[← zn.out] at ho56))
    have zb:=aM (Kd.R_lower (Kd.R_new' ho56 (Kd.R_lt (pR za.out))) (below_size (qB HB)))
    replace za:=eR za ho56 hb
    replace HB:=bS (qB HB) hb
    clear hb ho56
    refine hK.out _ _ ⟨(zW HB ya),(zW HB yb)⟩ (fun hHeld=>?_)
    clear hK K
    refine nM 72 ?_
    refine oN 0 59 16 16379 HT_ (fun K hK=>?_)
    refine Kd.R_lit_step (Kd.int .i64) _ 3 ?hg (N:=59) ?hd (xs:=([]:List Int)) (inner:=[]) (ok:=fun _=>True) (okp:=fun _=>True) ?hr ?hp (fun _ hk=>hk) trivial (Below.refl _ _) (Nat.le_refl _) (by simp) ?_;(case hd=>rfl);(case hg=>rfl);(case hr=>first|(go_simp;done)|(go_simp;rfl));(case hp=>exact(Reps.none _ _))
    intro zm w57 ho58 hb hg_ hnew_
    clear hg_ hnew_
    (first|rw[← zq.out] at ho58|(simp only[Int.reduceToNat] at ho58;rw[← zq.out] at ho58))
    have zi:=aM (Kd.R_lower (Kd.R_new' (Kd.R_new' ho58 (Kd.R_lt (pR za.out))) (Kd.R_lt (pR zb.out))) (below_size (qB HB)))
    replace za:=eR za ho58 hb
    replace zb:=eR zb ho58 hb
    replace HB:=bS (qB HB) hb
    clear hb ho58
    refine hK.out _ _ ⟨(zW HB ya),(zW HB yb)⟩ (fun hHeld=>?_)
    clear hK K
    refine nM 59 ?_
    refine oN 2 61 16 16383 HT_ (fun K hK=>?_)
    refine Kd.R_append_rows_step (Kd.int .i64) (w0:=w) w.heap.size (by rfl) (.tmp 59) (.tmp 60) 22 3 (.int .i64 0) 8 rfl Try.underlying22 info3 rfl (by decide) (by omega) zm zk zc _ _ _ (fun k_=>some k_≠(.slice zt zc.length zu:Value).ownBlock∧some k_≠(zj:Value).ownBlock) (fun _=>False) rfl rfl ?aO ?aR (fun _ _ h=>h) (fun _ h=>h.elim) ?aF ?aB ?aS ?aL ?_
    (case aR=>exact sR za)
    (case aB=>exact(qB HB))
    (case aF=>exact(fun k_ hk=>⟨Kd.fresh' (Kd.R_lt (pR za.out)) k_ hk,Kd.fresh' (Kd.R_lt (pR zb.out)) k_ hk⟩))
    (case aO=>exact(by(with_reducible repeat(first|apply rA|apply rN|apply rD));exact Kd.R_mono zi.out (fun _ hk=>⟨hk.1.2,hk.2⟩)))
    (case aS=>exact(below_size (qB HB)))
    (case aL=>have:=zy.out;omega)
    intro zl w59 ho hb hg hat
    rw[← zs.out] at ho
    replace za:=aM (Kd.R_after (ok:=(fun k_=>some k_≠(zj:Value).ownBlock)) (by(with_reducible repeat(first|apply rA|apply rN|apply rD));exact Kd.R_mono za.out (fun _ hk=>⟨hk.1.2,hk.2⟩)) hg hat)
    replace zb:=aM (Kd.R_after (ok:=(fun k_=>some k_≠(.slice zt zc.length zu:Value).ownBlock)) (by(with_reducible repeat(first|apply rA|apply rN|apply rD));exact Kd.R_mono zb.out (fun _ hk=>⟨hk.1.2,hk.2⟩)) hg hat)
    replace HB:=aM (hb)
    have zf:=aM (ho)
    clear zi
    clear ho hb hg hat
    refine hK.out _ _ ⟨(zW HB ya),(zW HB yb)⟩ (fun hHeld=>?_)
    clear hK K
    refine nM 61 ?_
    exact norm_ (by simp only[putAll,Act.put,sP]) (hCont (zm,zl,zj) _ ⟨hHeld,(by(with_reducible repeat(first|apply rA|apply rN|apply rD));exact Kd.R_mono za.out (fun _ hk=>⟨hk.2,hk.1⟩)),(pR zf.out),(pR zb.out),(qB HB)⟩)
  rintro⟨zm,zl,zj⟩ w60 ⟨hS_,h0_,h1_,h2_,h3_⟩
  have n0_:Aside0 (Kd.R (Kd.int .i64) 3 w60 w.heap.size (fun k_=>some k_≠(zl:Value).ownBlock∧some k_≠(zj:Value).ownBlock) (.slice zt zc.length zu) zc):=⟨h0_⟩
  have n1_:Aside0 (Kd.R (Kd.int .i64) 3 w60 w.heap.size (fun k_=>some k_≠(.slice zt zc.length zu:Value).ownBlock∧some k_≠(zj:Value).ownBlock) zl zh):=⟨h1_⟩
  have n2_:Aside0 (Kd.R (Kd.int .i64) 3 w60 w.heap.size (fun k_=>some k_≠(.slice zt zc.length zu:Value).ownBlock∧some k_≠(zl:Value).ownBlock) zj zd):=⟨h2_⟩
  have n3_:Aside0 (Below w.heap.size w w60):=⟨h3_⟩
  clear za
  clear HB
  clear h0_ h1_ h2_ h3_
  have za:=n0_
  have zf:=n1_
  have zb:=n2_
  have HB:=n3_
  clear n0_ n1_ n2_ n3_
  have hHeld:w60.cell? (yc.add ((ji17)).toNat)=some (.int .i64 (rd l0 (ji17)))∧w60.cell? (yd.add ((ji26)).toNat)=some (.int .i64 (rd l1 (ji26))):=hS_
  obtain⟨zad,zae,zaf⟩:=Kd.R_slice zb.out
  (first|subst zaf|(injection zaf with f1_ f2_ f3_;have f4_:=f1_.symm;have f5_:=f3_.symm;clear f1_ f2_ f3_;subst f4_;subst f5_))
  refine norm_ (a':=?_) ?_ ?_
  rotate_left
  ·simp only[putAll,Act.put,sP]
   rfl
  refine oN 14 73 16 32767 HT_ (fun K hK=>?_)
  refine Kd.R_append_rows_step (Kd.int .i64) (w0:=w) w.heap.size (by rfl) (.tmp 61) (.tmp 72) 22 3 (.int .i64 0) 8 rfl Try.underlying22 info3 rfl (by decide) (by omega) zl zh zd _ _ _ (fun k_=>some k_≠(.slice zt zc.length zu:Value).ownBlock∧some k_≠(.slice zad zd.length zae:Value).ownBlock) (fun _=>False) rfl rfl ?aO ?aR (fun _ _ h=>h) (fun _ h=>h.elim) ?aF ?aB ?aS ?aL ?_
  (case aR=>exact sR zb)
  (case aB=>exact(qB HB))
  (case aF=>exact(fun k_ hk=>⟨Kd.fresh' (Kd.R_lt (pR za.out)) k_ hk,Kd.fresh' (Kd.R_lt (pR zb.out)) k_ hk⟩))
  (case aO=>exact(pR zf.out))
  (case aS=>exact(below_size (qB HB)))
  (case aL=>have:=z6.out;omega)
  intro v1072 w61 ho hb hg hat
  rw[← z4.out] at ho
  replace za:=aM (Kd.R_after (ok:=(fun k_=>some k_≠(.slice zad zd.length zae:Value).ownBlock)) (by(with_reducible repeat(first|apply rA|apply rN|apply rD));exact Kd.R_mono za.out (fun _ hk=>⟨hk.2,hk.1⟩)) hg hat)
  replace zb:=aM (Kd.R_after (ok:=(fun k_=>some k_≠(.slice zt zc.length zu:Value).ownBlock)) (pR zb.out) hg hat)
  replace HB:=aM (hb)
  have zr:=aM (ho)
  clear zf
  clear ho hb hg hat
  refine hK.out _ _ ⟨(zW HB ya),(zW HB yb)⟩ (fun hHeld=>?_)
  clear hK K
  refine nM 73 ?_
  refine pQ 15 12 16 65535 HT_ ?_
  refine dN HT_ ?_
  obtain⟨yab,yac,yad⟩:=Kd.R_slice zr.out
  subst yad
  try go_wp2_with (first|((with_reducible refine gC 30 rfl ?_);refine gL 75 Try.func30 #[.slice yab zg.length yac] ?_;(with_reducible refine(fag.calls kj6 _ _ zg ze _ ?s1 ?s2 A30.out).mono ?_);(case s1=>exact sR zr);(case s2=>exact sL zr);rintro e w' ⟨rfl,⟨nd,rfl⟩⟩;refine⟨_,rfl,?_⟩))
  go_ret2
  exact⟨_,by first|rfl|(simp[errW_none,errW_some] <;> rfl)|(simp only[← hji10,← hji13,← hji17,← hji26];first|rfl|(simp[errW_none,errW_some] <;> rfl))|(simp[*,errW_none,errW_some] <;> rfl),pN,qB HB⟩
 rw[ip c31] at H
 have y3:=bT c31
 have y4:=nF c31
 clear c31
 replace H:=oi2 H
 obtain⟨rfl,rfl⟩:=H
 try go_wp2
 replace HB:=aM (below_drew1 HB.out)
 obtain⟨yc,⟨⟩,ye,yn,yo⟩:=zI HR0.out (ji10)
 have yi:=zW HB ye
 obtain⟨yd,⟨⟩,yf,yp,yq⟩:=zI HR1.out (ji13)
 have yj:=zW HB yf
 refine sT 11 [] (fun w'=>w'.cell? (yc.add ((ji10)).toNat)=some (.int .i64 (rd l0 (ji10)))∧w'.cell? (yd.add ((ji13)).toNat)=some (.int .i64 (rd l1 (ji13)))) fbf.tab9 fbf.bits9 ⟨(zW HB ye),(zW HB yf)⟩ (fun hHeld HT_ HW_=>?_)
 generalize wc.drew=w32 at HB yi yj hHeld ⊢
 refine pQ 0 33 11 1 HT_ ?_
 refine pQ 1 34 11 3 HT_ ?_
 refine pQ 2 35 11 7 HT_ ?_
 refine pQ 3 36 11 15 HT_ ?_
 refine pQ 5 38 11 47 HT_ ?_
 refine pQ 6 39 11 111 HT_ ?_
 refine pQ 7 40 11 239 HT_ ?_
 refine pQ 8 41 11 495 HT_ ?_
 refine pU2 4 37 11 511 HT_ HW_ hHeld ?_
 refine pU2 9 42 11 1023 HT_ HW_ hHeld ?_
 refine pQ 10 43 11 2047 HT_ ?_
 refine dN HT_ ?_
 try go_wp2
 replace HB:=aM (below_drew1 HB.out)
 obtain⟨i034,yx,_,hsz34,_⟩:=info_parts info3
 obtain⟨hcut34,hA34,hC34⟩:=print_take_of (P:=Try.prog) (Value.int .i64) 0 22 3 .i64 Try.underlying22 yx hsz34 (some yc) c0 l0 (ji17) (of_decide_eq_true pD) (of_decide_eq_true pD) HC0.out
 have HTK34:Aside0 (((ji17):Int).toNat=(l0.take ((ji17):Int).toNat).length):=⟨by have h1_:((ji17):Int)≤(l0.length:Int):=oD;have h0_:0≤((ji17):Int):=oD;rw[List.length_take];omega⟩
 have HR1054:=aM (Kd.C_of_reads (h1:=fun _=>rfl) (hA34 _ (Kd.reads_of_C HR0.out)))
 have HC1054:=aM hC34
 clear hA34 hC34 yx hsz34
 obtain⟨i035,yy,_,hsz35,_⟩:=info_parts info3
 obtain⟨hcut35,hA35,hC35⟩:=print_take_of (P:=Try.prog) (Value.int .i64) 0 22 3 .i64 Try.underlying22 yy hsz35 (some yd) c1 l1 (ji13) (of_decide_eq_true pD) (of_decide_eq_true pD) HC1.out
 have HTK35:Aside0 (((ji13):Int).toNat=(l1.take ((ji13):Int).toNat).length):=⟨by have h1_:((ji13):Int)≤(l1.length:Int):=oD;have h0_:0≤((ji13):Int):=oD;rw[List.length_take];omega⟩
 have HR1055:=aM (Kd.C_of_reads (h1:=fun _=>rfl) (hA35 _ (Kd.reads_of_C HR1.out)))
 have HC1055:=aM hC35
 clear hA35 hC35 yy hsz35
 refine sT 14 [] (fun w'=>True) fbf.tab11 fbf.bits11 trivial (fun hHeld HT_ HW_=>?_)
 generalize w32.drew=w33 at HB HR1054 HR1055 hHeld ⊢
 refine pQ 0 45 14 1 HT_ ?_
 refine pQ 1 46 14 3 HT_ ?_
 refine pQ 2 47 14 7 HT_ ?_
 refine pQ 3 48 14 15 HT_ ?_
 refine pQ 4 49 14 31 HT_ ?_
 refine pQ 5 50 14 63 HT_ ?_
 refine pQ 6 51 14 127 HT_ ?_
 refine pQ 7 52 14 255 HT_ ?_
 refine oN 8 53 14 511 HT_ (fun K hK=>?_)
 refine goes_ Try.func79 (by kernel_rfl) rfl #[.slice (some yc) (l0.take ((ji17):Int).toNat).length c0,.slice (some yd) (l1.take ((ji13):Int).toNat).length c1] (by rfl) rfl rfl (by(try simp only[List.map_toArray,List.map_cons,List.map_nil]);first|done|(rw[show (l0.take ((ji17):Int).toNat).length=(ji17).toNat from (by rw[List.length_take];have h_:((ji17):Int)≤(l0.length:Int):=oD;omega),show (l1.take ((ji13):Int).toNat).length=(ji13).toNat from (by rw[List.length_take];have h_:((ji13):Int)≤(l1.length:Int):=oD;omega)] <;> rfl)|(rw[show (l0.take ((ji17):Int).toNat).length=(ji17).toNat from (by rw[List.length_take];have h_:((ji17):Int)≤(l0.length:Int):=oD;omega)] <;> rfl)|(rw[show (l1.take ((ji13):Int).toNat).length=(ji13).toNat from (by rw[List.length_take];have h_:((ji13):Int)≤(l1.length:Int):=oD;omega)] <;> rfl)|(simp only[hji13,hji17];rfl)|rfl|(simp only[List.length_drop,List.length_take];rfl)) ?_
 with_reducible refine(fat.calls kj6 (fun k_=>k_<w.heap.size) _ _ (l0.take ((ji17):Int).toNat) (fun k_=>k_<w.heap.size) _ _ (l1.take ((ji13):Int).toNat) zc zx _ ?s1 ?s2 A22.out).mono ?_
 (case s1=>exact Kd.V_mk HC1054.out (Kd.F_below (Kd.C_F (Kd.heap_int .i64) HR1054.out) (qB HB)))
 (case s2=>exact Kd.V_mk HC1055.out (Kd.F_below (Kd.C_F (Kd.heap_int .i64) HR1055.out) (qB HB)))
 rintro e w36 ⟨z5,rfl,ho0,hb⟩
 refine⟨_,rfl,?_⟩
 have za:=aM (Kd.R_lower (Kd.R_mono (ok':=fun k_=>True) ho0 (fun _ hk_=>trivial)) (below_size (qB HB)))
 replace HB:=bS (qB HB) hb
 refine hK.out _ _ trivial (fun hHeld=>?_)
 clear hK K
 refine nM 53 ?_
 refine pQ 9 44 14 1023 HT_ ?_
 refine pQ 10 54 14 2047 HT_ ?_
 refine pQ 11 55 14 4095 HT_ ?_
 refine pQ 12 10 14 8191 HT_ ?_
 refine pQ 13 11 14 16383 HT_ ?_
 refine dN HT_ ?_
 obtain⟨zv,zw,yae⟩:=Kd.R_slice za.out
 subst yae
 try go_wp2
 replace za:=aM (Kd.R_drew za.out)
 replace HB:=aM (below_drew1 HB.out)
 obtain⟨yk,yr,yg,y5,y6⟩:=zI HR0.out (ji17)
 have ya:=yg
 obtain rfl:yc=yk:=(by injection yr)
 replace yg:=zW HB yg
 obtain⟨yl,ys,yh,y7,y8⟩:=zI HR1.out (ji26)
 have yb:=yh
 obtain rfl:yd=yl:=(by injection ys)
 replace yh:=zW HB yh
 refine sT 16 [] (fun w'=>w'.cell? (yc.add ((ji17)).toNat)=some (.int .i64 (rd l0 (ji17)))∧w'.cell? (yd.add ((ji26)).toNat)=some (.int .i64 (rd l1 (ji26)))) fbf.tab14 fbf.bits14 ⟨(zW HB ya),(zW HB yb)⟩ (fun hHeld HT_ HW_=>?_)
 generalize w36.drew=w38 at za HB yg yh hHeld ⊢
 refine pQ 1 60 16 2 HT_ ?_
 refine pQ 3 62 16 10 HT_ ?_
 refine pQ 4 63 16 26 HT_ ?_
 refine pQ 5 64 16 58 HT_ ?_
 refine pQ 6 65 16 122 HT_ ?_
 refine pQ 8 67 16 378 HT_ ?_
 refine pQ 9 68 16 890 HT_ ?_
 refine pQ 10 69 16 1914 HT_ ?_
 refine pQ 11 70 16 3962 HT_ ?_
 refine pU2 7 66 16 4090 HT_ HW_ hHeld ?_
 refine pU2 12 71 16 8186 HT_ HW_ hHeld ?_
 refine join_ (σ:=Value×Value×Value) 2 (bm 16 16383) (fun s_=>[(59,s_.1),(61,s_.2.1),(72,s_.2.2)]) (fun s_ w'=>(w'.cell? (yc.add ((ji17)).toNat)=some (.int .i64 (rd l0 (ji17)))∧w'.cell? (yd.add ((ji26)).toNat)=some (.int .i64 (rd l1 (ji26))))∧(Kd.R (Kd.int .i64) 3 w' w.heap.size (fun k_=>some k_≠(s_.2.1:Value).ownBlock∧some k_≠(s_.2.2:Value).ownBlock) (.slice zv zc.length zw) zc)∧(Kd.R (Kd.int .i64) 3 w' w.heap.size (fun k_=>some k_≠(.slice zv zc.length zw:Value).ownBlock∧some k_≠(s_.2.2:Value).ownBlock) s_.2.1 zh)∧(Kd.R (Kd.int .i64) 3 w' w.heap.size (fun k_=>some k_≠(.slice zv zc.length zw:Value).ownBlock∧some k_≠(s_.2.1:Value).ownBlock) s_.2.2 zd)∧(Below w.heap.size w w')) ?_ ?_
 rotate_left
 ·intro hCont
  refine two_ (i:=0) (j:=13) (Ni:=some 59) (Nj:=some 72) (bm 16 8187) (bm 16 16378) rfl rfl rfl rfl (two_of HT_.out (by kernel_rfl)) (by decide) (by decide) (fun K hK=>?_) (fun K hK=>?_)
  ·skip
   refine Kd.R_lit_step (Kd.int .i64) _ 3 ?hg (N:=59) ?hd (xs:=([]:List Int)) (inner:=[]) (ok:=fun _=>True) (okp:=fun _=>True) ?hr ?hp (fun _ hk=>hk) trivial (Below.refl _ _) (Nat.le_refl _) (by simp) ?_;(case hd=>rfl);(case hg=>rfl);(case hr=>first|(go_simp;done)|(go_simp;rfl));(case hp=>exact(Reps.none _ _))
   intro zm w39 ho40 hb hg_ hnew_
   clear hg_ hnew_
   (first|rw[← zq.out] at ho40|(simp only[Int.reduceToNat] at ho40;rw[← zq.out] at ho40))
   have zi:=aM (Kd.R_lower (Kd.R_new' ho40 (Kd.R_lt (pR za.out))) (below_size (qB HB)))
   replace za:=eR za ho40 hb
   replace HB:=bS (qB HB) hb
   clear hb ho40
   refine hK.out _ _ ⟨(zW HB ya),(zW HB yb)⟩ (fun hHeld=>?_)
   clear hK K
   refine nM 59 ?_
   refine two_ (i:=2) (j:=13) (Ni:=some 61) (Nj:=some 72) (bm 16 8191) (bm 16 16379) rfl rfl rfl rfl (two_of HT_.out (by kernel_rfl)) (by decide) (by decide) (fun K hK=>?_) (fun K hK=>?_)
   ·skip
    refine Kd.R_append_rows_step (Kd.int .i64) (w0:=w) w.heap.size (by rfl) (.tmp 59) (.tmp 60) 22 3 (.int .i64 0) 8 rfl Try.underlying22 info3 rfl (by decide) (by omega) zm zk zc _ _ _ (fun k_=>some k_≠(.slice zv zc.length zw:Value).ownBlock) (fun _=>False) rfl rfl ?aO ?aR (fun _ _ h=>h) (fun _ h=>h.elim) ?aF ?aB ?aS ?aL ?_
    (case aR=>exact sR za)
    (case aB=>exact(qB HB))
    (case aF=>exact(fun k_ hk=>Kd.fresh' (Kd.R_lt (pR za.out)) k_ hk))
    (case aO=>exact(by(with_reducible repeat(first|apply rA|apply rN|apply rD));exact Kd.R_mono zi.out (fun _ hk=>hk.2)))
    (case aS=>exact(below_size (qB HB)))
    (case aL=>have:=zy.out;omega)
    intro zl w41 ho hb hg hat
    rw[← zs.out] at ho
    replace za:=aM (Kd.R_after (ok:=(fun _=>True)) (pR za.out) hg hat)
    replace HB:=aM (hb)
    have zf:=aM (ho)
    clear zi
    clear ho hb hg hat
    refine hK.out _ _ ⟨(zW HB ya),(zW HB yb)⟩ (fun hHeld=>?_)
    clear hK K
    refine nM 61 ?_
    refine oN 13 72 16 16383 HT_ (fun K hK=>?_)
    refine Kd.R_lit_step (Kd.int .i64) _ 3 ?hg (N:=72) ?hd (xs:=([rd l0 (ji17),rd l1 (ji26)]:List Int)) (inner:=[.int .i64 (rd l0 (ji17)),.int .i64 (rd l1 (ji26))]) (ok:=fun _=>True) (okp:=fun _=>True) ?hr ?hp (fun _ hk=>hk) trivial (Below.refl _ _) (Nat.le_refl _) (by simp) ?_;(case hd=>rfl);(case hg=>rfl);(case hr=>first|(go_simp;done)|(go_simp;rfl));(case hp=>exact(Reps.one (show Kd.M (Kd.int .i64) _ _ _ (rd l0 (ji17)) [.int .i64 (rd l0 (ji17))] from rfl) (Reps.one (show Kd.M (Kd.int .i64) _ _ _ (rd l1 (ji26)) [.int .i64 (rd l1 (ji26))] from rfl) (Reps.none _ _))))
    intro zj w42 ho43 hb hg_ hnew_
    clear hg_ hnew_
    (first|rw[← zn.out] at ho43|(simp only[Int.reduceToNat] at ho43;rw[← zn.out] at ho43))
    have zb:=aM (Kd.R_lower (Kd.R_new' (Kd.R_new' ho43 (Kd.R_lt (pR za.out))) (Kd.R_lt (pR zf.out))) (below_size (qB HB)))
    replace za:=eR za ho43 hb
    replace zf:=eR zf ho43 hb
    replace HB:=bS (qB HB) hb
    clear hb ho43
    refine hK.out _ _ ⟨(zW HB ya),(zW HB yb)⟩ (fun hHeld=>?_)
    clear hK K
    refine nM 72 ?_
    exact norm_ (by simp only[putAll,Act.put,sP]) (hCont (zm,zl,zj) _ ⟨hHeld,(by(with_reducible repeat(first|apply rA|apply rN|apply rD));exact Kd.R_mono za.out (fun _ hk=>⟨hk.1.2,hk.2⟩)),(pR zf.out),(by(with_reducible repeat(first|apply rA|apply rN|apply rD));exact Kd.R_mono zb.out (fun _ hk=>⟨hk.1.2,hk.2⟩)),(qB HB)⟩)
   ·skip
    refine Kd.R_lit_step (Kd.int .i64) _ 3 ?hg (N:=72) ?hd (xs:=([rd l0 (ji17),rd l1 (ji26)]:List Int)) (inner:=[.int .i64 (rd l0 (ji17)),.int .i64 (rd l1 (ji26))]) (ok:=fun _=>True) (okp:=fun _=>True) ?hr ?hp (fun _ hk=>hk) trivial (Below.refl _ _) (Nat.le_refl _) (by simp) ?_;(case hd=>rfl);(case hg=>rfl);(case hr=>first|(go_simp;done)|(go_simp;rfl));(case hp=>exact(Reps.one (show Kd.M (Kd.int .i64) _ _ _ (rd l0 (ji17)) [.int .i64 (rd l0 (ji17))] from rfl) (Reps.one (show Kd.M (Kd.int .i64) _ _ _ (rd l1 (ji26)) [.int .i64 (rd l1 (ji26))] from rfl) (Reps.none _ _))))
    intro zj w41 ho42 hb hg_ hnew_
    clear hg_ hnew_
    (first|rw[← zn.out] at ho42|(simp only[Int.reduceToNat] at ho42;rw[← zn.out] at ho42))
    have zb:=aM (Kd.R_lower (Kd.R_new' (Kd.R_new' ho42 (Kd.R_lt (pR za.out))) (Kd.R_lt (pR zi.out))) (below_size (qB HB)))
    replace za:=eR za ho42 hb
    replace zi:=eR zi ho42 hb
    replace HB:=bS (qB HB) hb
    clear hb ho42
    refine hK.out _ _ ⟨(zW HB ya),(zW HB yb)⟩ (fun hHeld=>?_)
    clear hK K
    refine nM 72 ?_
    refine oN 2 61 16 16383 HT_ (fun K hK=>?_)
    refine Kd.R_append_rows_step (Kd.int .i64) (w0:=w) w.heap.size (by rfl) (.tmp 59) (.tmp 60) 22 3 (.int .i64 0) 8 rfl Try.underlying22 info3 rfl (by decide) (by omega) zm zk zc _ _ _ (fun k_=>some k_≠(.slice zv zc.length zw:Value).ownBlock∧some k_≠(zj:Value).ownBlock) (fun _=>False) rfl rfl ?aO ?aR (fun _ _ h=>h) (fun _ h=>h.elim) ?aF ?aB ?aS ?aL ?_
    (case aR=>exact sR za)
    (case aB=>exact(qB HB))
    (case aF=>exact(fun k_ hk=>⟨Kd.fresh' (Kd.R_lt (pR za.out)) k_ hk,Kd.fresh' (Kd.R_lt (pR zb.out)) k_ hk⟩))
    (case aO=>exact(by(with_reducible repeat(first|apply rA|apply rN|apply rD));exact Kd.R_mono zi.out (fun _ hk=>⟨hk.1.2,hk.2⟩)))
    (case aS=>exact(below_size (qB HB)))
    (case aL=>have:=zy.out;omega)
    intro zl w43 ho hb hg hat
    rw[← zs.out] at ho
    replace za:=aM (Kd.R_after (ok:=(fun k_=>some k_≠(zj:Value).ownBlock)) (by(with_reducible repeat(first|apply rA|apply rN|apply rD));exact Kd.R_mono za.out (fun _ hk=>⟨hk.2,hk.1.2⟩)) hg hat)
    replace zb:=aM (Kd.R_after (ok:=(fun k_=>some k_≠(.slice zv zc.length zw:Value).ownBlock)) (by(with_reducible repeat(first|apply rA|apply rN|apply rD));exact Kd.R_mono zb.out (fun _ hk=>⟨hk.1.2,hk.2⟩)) hg hat)
    replace HB:=aM (hb)
    have zf:=aM (ho)
    clear zi
    clear ho hb hg hat
    refine hK.out _ _ ⟨(zW HB ya),(zW HB yb)⟩ (fun hHeld=>?_)
    clear hK K
    refine nM 61 ?_
    exact norm_ (by simp only[putAll,Act.put,sP]) (hCont (zm,zl,zj) _ ⟨hHeld,(by(with_reducible repeat(first|apply rA|apply rN|apply rD));exact Kd.R_mono za.out (fun _ hk=>⟨hk.2,hk.1⟩)),(pR zf.out),(pR zb.out),(qB HB)⟩)
  ·skip
   refine Kd.R_lit_step (Kd.int .i64) _ 3 ?hg (N:=72) ?hd (xs:=([rd l0 (ji17),rd l1 (ji26)]:List Int)) (inner:=[.int .i64 (rd l0 (ji17)),.int .i64 (rd l1 (ji26))]) (ok:=fun _=>True) (okp:=fun _=>True) ?hr ?hp (fun _ hk=>hk) trivial (Below.refl _ _) (Nat.le_refl _) (by simp) ?_;(case hd=>rfl);(case hg=>rfl);(case hr=>first|(go_simp;done)|(go_simp;rfl));(case hp=>exact(Reps.one (show Kd.M (Kd.int .i64) _ _ _ (rd l0 (ji17)) [.int .i64 (rd l0 (ji17))] from rfl) (Reps.one (show Kd.M (Kd.int .i64) _ _ _ (rd l1 (ji26)) [.int .i64 (rd l1 (ji26))] from rfl) (Reps.none _ _))))
   intro zj w39 ho40 hb hg_ hnew_
   clear hg_ hnew_
   (first|rw[← zn.out] at ho40|(simp only[Int.reduceToNat] at ho40;rw[← zn.out] at ho40))
   have zb:=aM (Kd.R_lower (Kd.R_new' ho40 (Kd.R_lt (pR za.out))) (below_size (qB HB)))
   replace za:=eR za ho40 hb
   replace HB:=bS (qB HB) hb
   clear hb ho40
   refine hK.out _ _ ⟨(zW HB ya),(zW HB yb)⟩ (fun hHeld=>?_)
   clear hK K
   refine nM 72 ?_
   refine oN 0 59 16 16379 HT_ (fun K hK=>?_)
   refine Kd.R_lit_step (Kd.int .i64) _ 3 ?hg (N:=59) ?hd (xs:=([]:List Int)) (inner:=[]) (ok:=fun _=>True) (okp:=fun _=>True) ?hr ?hp (fun _ hk=>hk) trivial (Below.refl _ _) (Nat.le_refl _) (by simp) ?_;(case hd=>rfl);(case hg=>rfl);(case hr=>first|(go_simp;done)|(go_simp;rfl));(case hp=>exact(Reps.none _ _))
   intro zm w41 ho42 hb hg_ hnew_
   clear hg_ hnew_
   (first|rw[← zq.out] at ho42|(simp only[Int.reduceToNat] at ho42;rw[← zq.out] at ho42))
   have zi:=aM (Kd.R_lower (Kd.R_new' (Kd.R_new' ho42 (Kd.R_lt (pR za.out))) (Kd.R_lt (pR zb.out))) (below_size (qB HB)))
   replace za:=eR za ho42 hb
   replace zb:=eR zb ho42 hb
   replace HB:=bS (qB HB) hb
   clear hb ho42
   refine hK.out _ _ ⟨(zW HB ya),(zW HB yb)⟩ (fun hHeld=>?_)
   clear hK K
   refine nM 59 ?_
   refine oN 2 61 16 16383 HT_ (fun K hK=>?_)
   refine Kd.R_append_rows_step (Kd.int .i64) (w0:=w) w.heap.size (by rfl) (.tmp 59) (.tmp 60) 22 3 (.int .i64 0) 8 rfl Try.underlying22 info3 rfl (by decide) (by omega) zm zk zc _ _ _ (fun k_=>some k_≠(.slice zv zc.length zw:Value).ownBlock∧some k_≠(zj:Value).ownBlock) (fun _=>False) rfl rfl ?aO ?aR (fun _ _ h=>h) (fun _ h=>h.elim) ?aF ?aB ?aS ?aL ?_
   (case aR=>exact sR za)
   (case aB=>exact(qB HB))
   (case aF=>exact(fun k_ hk=>⟨Kd.fresh' (Kd.R_lt (pR za.out)) k_ hk,Kd.fresh' (Kd.R_lt (pR zb.out)) k_ hk⟩))
   (case aO=>exact(by(with_reducible repeat(first|apply rA|apply rN|apply rD));exact Kd.R_mono zi.out (fun _ hk=>⟨hk.1.2,hk.2⟩)))
   (case aS=>exact(below_size (qB HB)))
   (case aL=>have:=zy.out;omega)
   intro zl w43 ho hb hg hat
   rw[← zs.out] at ho
   replace za:=aM (Kd.R_after (ok:=(fun k_=>some k_≠(zj:Value).ownBlock)) (by(with_reducible repeat(first|apply rA|apply rN|apply rD));exact Kd.R_mono za.out (fun _ hk=>⟨hk.1.2,hk.2⟩)) hg hat)
   replace zb:=aM (Kd.R_after (ok:=(fun k_=>some k_≠(.slice zv zc.length zw:Value).ownBlock)) (by(with_reducible repeat(first|apply rA|apply rN|apply rD));exact Kd.R_mono zb.out (fun _ hk=>⟨hk.1.2,hk.2⟩)) hg hat)
   replace HB:=aM (hb)
   have zf:=aM (ho)
   clear zi
   clear ho hb hg hat
   refine hK.out _ _ ⟨(zW HB ya),(zW HB yb)⟩ (fun hHeld=>?_)
   clear hK K
   refine nM 61 ?_
   exact norm_ (by simp only[putAll,Act.put,sP]) (hCont (zm,zl,zj) _ ⟨hHeld,(by(with_reducible repeat(first|apply rA|apply rN|apply rD));exact Kd.R_mono za.out (fun _ hk=>⟨hk.2,hk.1⟩)),(pR zf.out),(pR zb.out),(qB HB)⟩)
 rintro⟨zm,zl,zj⟩ w44 ⟨hS_,h0_,h1_,h2_,h3_⟩
 have n0_:Aside0 (Kd.R (Kd.int .i64) 3 w44 w.heap.size (fun k_=>some k_≠(zl:Value).ownBlock∧some k_≠(zj:Value).ownBlock) (.slice zv zc.length zw) zc):=⟨h0_⟩
 have n1_:Aside0 (Kd.R (Kd.int .i64) 3 w44 w.heap.size (fun k_=>some k_≠(.slice zv zc.length zw:Value).ownBlock∧some k_≠(zj:Value).ownBlock) zl zh):=⟨h1_⟩
 have n2_:Aside0 (Kd.R (Kd.int .i64) 3 w44 w.heap.size (fun k_=>some k_≠(.slice zv zc.length zw:Value).ownBlock∧some k_≠(zl:Value).ownBlock) zj zd):=⟨h2_⟩
 have n3_:Aside0 (Below w.heap.size w w44):=⟨h3_⟩
 clear za
 clear HB
 clear h0_ h1_ h2_ h3_
 have za:=n0_
 have zf:=n1_
 have zb:=n2_
 have HB:=n3_
 clear n0_ n1_ n2_ n3_
 have hHeld:w44.cell? (yc.add ((ji17)).toNat)=some (.int .i64 (rd l0 (ji17)))∧w44.cell? (yd.add ((ji26)).toNat)=some (.int .i64 (rd l1 (ji26))):=hS_
 obtain⟨zag,zah,zai⟩:=Kd.R_slice zb.out
 (first|subst zai|(injection zai with f1_ f2_ f3_;have f4_:=f1_.symm;have f5_:=f3_.symm;clear f1_ f2_ f3_;subst f4_;subst f5_))
 refine norm_ (a':=?_) ?_ ?_
 rotate_left
 ·simp only[putAll,Act.put,sP]
  rfl
 refine oN 14 73 16 32767 HT_ (fun K hK=>?_)
 refine Kd.R_append_rows_step (Kd.int .i64) (w0:=w) w.heap.size (by rfl) (.tmp 61) (.tmp 72) 22 3 (.int .i64 0) 8 rfl Try.underlying22 info3 rfl (by decide) (by omega) zl zh zd _ _ _ (fun k_=>some k_≠(.slice zv zc.length zw:Value).ownBlock∧some k_≠(.slice zag zd.length zah:Value).ownBlock) (fun _=>False) rfl rfl ?aO ?aR (fun _ _ h=>h) (fun _ h=>h.elim) ?aF ?aB ?aS ?aL ?_
 (case aR=>exact sR zb)
 (case aB=>exact(qB HB))
 (case aF=>exact(fun k_ hk=>⟨Kd.fresh' (Kd.R_lt (pR za.out)) k_ hk,Kd.fresh' (Kd.R_lt (pR zb.out)) k_ hk⟩))
 (case aO=>exact(pR zf.out))
 (case aS=>exact(below_size (qB HB)))
 (case aL=>have:=z6.out;omega)
 intro v1072 w45 ho hb hg hat
 rw[← z4.out] at ho
 replace za:=aM (Kd.R_after (ok:=(fun k_=>some k_≠(.slice zag zd.length zah:Value).ownBlock)) (by(with_reducible repeat(first|apply rA|apply rN|apply rD));exact Kd.R_mono za.out (fun _ hk=>⟨hk.2,hk.1⟩)) hg hat)
 replace zb:=aM (Kd.R_after (ok:=(fun k_=>some k_≠(.slice zv zc.length zw:Value).ownBlock)) (pR zb.out) hg hat)
 replace HB:=aM (hb)
 have zr:=aM (ho)
 clear zf
 clear ho hb hg hat
 refine hK.out _ _ ⟨(zW HB ya),(zW HB yb)⟩ (fun hHeld=>?_)
 clear hK K
 refine nM 73 ?_
 refine pQ 15 12 16 65535 HT_ ?_
 refine dN HT_ ?_
 obtain⟨yaf,yag,yah⟩:=Kd.R_slice zr.out
 subst yah
 try go_wp2_with (first|((with_reducible refine gC 30 rfl ?_);refine gL 75 Try.func30 #[.slice yaf zg.length yag] ?_;(with_reducible refine(fag.calls kj6 _ _ zg ze _ ?s1 ?s2 A30.out).mono ?_);(case s1=>exact sR zr);(case s2=>exact sL zr);rintro e w' ⟨rfl,⟨nd,rfl⟩⟩;refine⟨_,rfl,?_⟩))
 go_ret2
 exact⟨_,by first|rfl|(simp[errW_none,errW_some] <;> rfl)|(simp only[← hji10,← hji13,← hji17,← hji26];first|rfl|(simp[errW_none,errW_some] <;> rfl))|(simp[*,errW_none,errW_some] <;> rfl),by(with_reducible repeat(first|apply rA|apply rN|apply rD));exact Kd.R_mono zr.out (fun _ hk=>trivial),qB HB⟩
mutual
def fam.j0:Nat→List Int→Int→Int→Bool→Option (List Int×Int)
 | 0,_,_,_,_=>none
 | k+1,x0,x1,x2,x23=>if x23=true then(some (([]:List Int),10))else(fam.l0 k x0 x1 x2 ([]:List Int) (x0.length:Int) 0)
def fam.l0:Nat→List Int→Int→Int→List Int→Int→Int→Option (List Int×Int)
 | 0,_,_,_,_,_,_=>none
 | k+1,x0,x1,x2,x9,x25,x26=>if x26<x25 then(if x26=x1 then(if x9.length<17592186044416 then(fam.l0 k x0 x1 x2 (x9++[x2]) x25 (wrap64 (x26+1)))else(none))else(if 0≤x26 then(if x26<(x0.length:Int)then(if x9.length<17592186044416 then(fam.l0 k x0 x1 x2 (x9++[rd x0 x26]) x25 (wrap64 (x26+1)))else(none))else(none))else(none)))else((fag.f k x9).bind fun zc=>(if zc=0 then(some (x9,0))else(some (([]:List Int),zc))))
end
def fam.f (k:Nat) (l0:List Int)(a1 a2:Int):Option (List Int×Int):=(fag.f k l0).bind fun za=>(if za=0 then(if a1<0 then(fam.j0 k l0 a1 a2 true)else(fam.j0 k l0 a1 a2 (decide (a1 ≥ (l0.length:Int)))))else(some (([]:List Int),za)))
theorem fam.calls (k:Nat)(A0:Option Addr)(c0:Nat)(l0:List Int)(a1 a2:Int)(r1:List Int)(r2:Int)(w:World)(hr0:Kd.C (Kd.int .i64) w A0 l0.length l0)(hc0:l0.length≤c0)(h:fam.f k l0 a1 a2=some (r1,r2)) :
  Calls Try.prog 63 #[.slice A0 l0.length c0,.int .i64 a1,.int .i64 a2] w fun e w'=>∃ v0_:Value,e=.returned (.tuple #[v0_,.int .i64 r2])∧Kd.R (Kd.int .i64) 3 w' w.heap.size (fun _=>True) v0_ r1∧Below w.heap.size w w':=by
 have HR0:=aM hr0
 have HC0:=aM hc0
 clear hr0 hc0
 have HB:=aM (Below.refl w.heap.size w)
 have H:((fag.f k l0).bind fun za=>(if za=0 then(if a1<0 then(fam.j0 k l0 a1 a2 true)else(fam.j0 k l0 a1 a2 (decide (a1 ≥ (l0.length:Int)))))else(some (([]:List Int),za))))=some (r1,r2):=h
 clear h
 replace H:=oB H
 obtain⟨za,A40,H⟩:=H
 try dsimp only at H
 have A4:=aM A40
 clear A40
 by_cases c5:za=0
 rotate_left
 ·rw[iN c5] at H
  have zg:=bF c5
  have zh:=nT c5
  replace H:=oi2 H
  obtain⟨rfl,rfl⟩:=H
  go_enter Try.func63,Try.ntmps63
  go_wp2_with (first|((with_reducible refine gC 30 rfl ?_);refine gL 12 Try.func30 #[.slice A0 l0.length c0] ?_;(with_reducible refine(fag.calls k _ _ l0 za _ ?s1 HC0.out A4.out).mono ?_);(case s1=>exact pC HR0.out);rintro e w' ⟨rfl,⟨nd,rfl⟩⟩;refine⟨_,rfl,?_⟩))
  go_ret2
  exact⟨_,pE,pN,qB HB⟩
 rw[ip c5] at H
 have zg:=bT c5
 have zh:=nF c5
 clear c5
 have HC6:=aM H
 clear H
 go_enter Try.func63,Try.ntmps63
 go_upto_region 4 with(first|((with_reducible refine gC 30 rfl ?_);refine gL 12 Try.func30 #[.slice A0 l0.length c0] ?_;(with_reducible refine(fag.calls k _ _ l0 za _ ?s1 HC0.out A4.out).mono ?_);(case s1=>exact pC HR0.out);rintro e w' ⟨rfl,⟨nd,rfl⟩⟩;refine⟨_,rfl,?_⟩))
 (try simp only[Act.put,sP])
 go_cut [23] (fun v23 wc=>∃ (kq:Nat) (yc:Bool),v23=.bool yc∧Aside0 (fam.j0 kq l0 a1 a2 yc=some (r1,r2))∧Aside0 (kq≤k)∧Aside0 (Below w.heap.size w wc))
 case first =>
  have H:=HC6.out
  clear HC6
  by_cases c7:a1<0
  ·rw[ip c7] at H
   have zd:=dT c7
   clear c7
   (first|rw[zd]|(simp only[i64_w,i32_w];rw[zd])|skip)
   have H':=aM H
   clear H
   go_wp2
   go_meet
   case rel=>exact⟨_,(true),(pF),H',⟨pO⟩,⟨qB HB⟩⟩
  rw[iN c7] at H
  have zd:=dF c7
  clear c7
  (first|rw[zd]|(simp only[i64_w,i32_w];rw[zd])|skip)
  have H':=aM H
  clear H
  go_wp2
  go_meet
  case rel=>exact⟨_,(decide (a1 ≥ (l0.length:Int))),(pF),H',⟨pO⟩,⟨qB HB⟩⟩
 clear HC6
 try clear zg
 try clear zh
 obtain⟨kq,yc,rfl,HA,HJ5,HB⟩:=hcut
 cases kq with
 | zero=>exact absurd HA.out (by simp[fam.j0])
 | succ kj5=>?_
 have H:=HA.out
 clear HA
 simp only[fam.j0] at H
 by_cases c8:yc=true
 ·subst c8
  rw[ip rfl] at H
  replace H:=oi2 H
  obtain⟨rfl,rfl⟩:=H
  go_wp2
  go_ret2
  exact⟨_,pE,pN,qB HB⟩
 replace c8:=Bool.eq_false_iff.mpr c8
 subst c8
 rw[iN fT] at H
 have H':=aM H
 clear H
 go_wp2
 go_loopg [9,26] kj5 (fun kq v9 v26 w'=>∃ (yb:List Int) (ya:Int),v26=.int .i64 ya∧Aside0 (fam.l0 kq l0 a1 a2 yb (l0.length:Int) ya=some (r1,r2))∧Aside0 (kq≤kj5)∧Aside0 (Kd.R (Kd.int .i64) 3 w' w.heap.size (fun _=>True) v9 yb)∧Aside0 (Below w.heap.size w w'))
 case atStart=>exact⟨(([]:List Int)),(0),(pF),H',⟨Nat.le_refl _⟩,⟨pN⟩,⟨qB HB⟩⟩
 clear H'
 try clear c8
 obtain⟨yb,ya,rfl,HA,HK2,zb,HB⟩:=hrel
 cases gk with
 | zero=>exact absurd HA.out (by simp[fam.l0])
 | succ k2=>?_
 have H:=HA.out
 clear HA
 simp only[fam.l0] at H
 by_cases c9:ya<(l0.length:Int)
 rotate_left
 ·rw[iN c9] at H
  have yi:=dF c9
  clear c9
  replace H:=oB H
  obtain⟨zc,zi,H⟩:=H
  try dsimp only at H
  have A17:=aM zi
  clear zi
  by_cases c18:zc=0
  rotate_left
  ·rw[iN c18] at H
   have ye:=bF c18
   have yf:=nT c18
   replace H:=oi2 H
   obtain⟨rfl,rfl⟩:=H
   obtain⟨yj,yk,yl⟩:=Kd.R_slice zb.out
   subst yl
   go_wp2_with (first|((with_reducible refine gC 30 rfl ?_);refine gL 45 Try.func30 #[.slice yj yb.length yk] ?_;(with_reducible refine(fag.calls k2 _ _ yb zc _ ?s1 ?s2 A17.out).mono ?_);(case s1=>exact sR zb);(case s2=>exact sL zb);rintro e w' ⟨rfl,⟨nd,rfl⟩⟩;refine⟨_,rfl,?_⟩))
   go_ret2
   exact⟨_,pE,pN,qB HB⟩
  rw[ip c18] at H
  have ye:=bT c18
  have yf:=nF c18
  clear c18
  replace H:=oi2 H
  obtain⟨rfl,rfl⟩:=H
  obtain⟨ym,yn,yo⟩:=Kd.R_slice zb.out
  subst yo
  go_wp2_with (first|((with_reducible refine gC 30 rfl ?_);refine gL 45 Try.func30 #[.slice ym yb.length yn] ?_;(with_reducible refine(fag.calls k2 _ _ yb zc _ ?s1 ?s2 A17.out).mono ?_);(case s1=>exact sR zb);(case s2=>exact sL zb);rintro e w' ⟨rfl,⟨nd,rfl⟩⟩;refine⟨_,rfl,?_⟩))
  go_ret2
  exact⟨_,pE,pR zb.out,qB HB⟩
 rw[ip c9] at H
 have yi:=dT c9
 clear c9
 by_cases c10:ya=a1
 ·rw[ip c10] at H
  have yg:=bT c10
  have yh:=nF c10
  clear c10
  by_cases c11:yb.length<17592186044416
  rotate_left
  ·rw[iN c11] at H
   cases H
  rw[ip c11] at H
  have LMc11:=aM c11
  clear c11
  obtain⟨zj,ze⟩:∃ y_:List Int,y_=(yb++[a2]):=⟨_,rfl⟩
  replace H:(fam.l0 k2 l0 a1 a2 zj (l0.length:Int) (wrap64 (ya+1)))=some (r1,r2):=pH ze H
  have Ny509:=aM ze
  clear ze
  have H':=aM H
  clear H
  go_wp2_with (first|((with_reducible refine gate_builtin (b:=.append) (xs:=#[.tmp 32,.tmp 34]) rfl ?_);(try (refine gate_guard (by rfl) ?_;dsimp only));at_builtin;refine Kd.R_append (Kd.int .i64) (w0:=w) w.heap.size rfl (.tmp 32) (.tmp 34) 22 3 (.int .i64 0) 8 rfl Try.underlying22 info3 rfl (by decide) (by omega) u9 yb a2 [.int .i64 a2] (fun _=>True) (fun _=>False) rfl rfl ?aP (fun _ hk=>hk.elim) ?aF ?aO ?aB ?aS ?aL ?_;(case aP=>exact rfl);(case aB=>exact(qB HB));(case aF=>exact(fun _ _=>trivial));(case aO=>exact(pR zb.out));(case aS=>exact(below_size (qB HB)));(case aL=>have:=LMc11.out;omega);intro v510 w12 ho hb hg hat;rw[← Ny509.out] at ho;replace HB:=aM (hb);have HO511:=aM (ho);clear zb;clear ho hb hg hat))
  go_roundg k2
  case measure=>have:=HJ5.out;have:=HK2.out;omega
  case rel=>exact⟨(zj),(wrap64 (ya+1)),(pF),H',⟨pO2 HJ5 HK2⟩,⟨pR HO511.out⟩,⟨qB HB⟩⟩
 rw[iN c10] at H
 have yg:=bF c10
 have yh:=nT c10
 by_cases c13:0≤ya
 rotate_left
 ·rw[iN c13] at H
  cases H
 rw[ip c13] at H
 have c13b0:=dT c13
 clear c13
 by_cases c14:ya<(l0.length:Int)
 rotate_left
 ·rw[iN c14] at H
  cases H
 rw[ip c14] at H
 have c14b0:=dT c14
 clear c14
 by_cases c15:yb.length<17592186044416
 rotate_left
 ·rw[iN c15] at H
  cases H
 rw[ip c15] at H
 have LMc15:=aM c15
 clear c15
 obtain⟨zk,zf⟩:∃ y_:List Int,y_=(yb++[rd l0 ya]):=⟨_,rfl⟩
 replace H:(fam.l0 k2 l0 a1 a2 zk (l0.length:Int) (wrap64 (ya+1)))=some (r1,r2):=pH zf H
 have Ny513:=aM zf
 clear zf
 have H':=aM H
 clear H
 obtain⟨ad512,⟨⟩,yd,p512,q512⟩:=zI HR0.out ya
 replace yd:=zW HB yd
 go_wp2_with (first|((with_reducible refine gate_builtin (b:=.append) (xs:=#[.tmp 36,.tmp 41]) rfl ?_);(try (refine gate_guard (by rfl) ?_;dsimp only));at_builtin;refine Kd.R_append (Kd.int .i64) (w0:=w) w.heap.size rfl (.tmp 36) (.tmp 41) 22 3 (.int .i64 0) 8 rfl Try.underlying22 info3 rfl (by decide) (by omega) u9 yb (rd l0 ya) [.int .i64 (rd l0 ya)] (fun _=>True) (fun _=>False) rfl rfl ?aP (fun _ hk=>hk.elim) ?aF ?aO ?aB ?aS ?aL ?_;(case aP=>exact rfl);(case aB=>exact(qB HB));(case aF=>exact(fun _ _=>trivial));(case aO=>exact(pR zb.out));(case aS=>exact(below_size (qB HB)));(case aL=>have:=LMc15.out;omega);intro v514 w16 ho hb hg hat;rw[← Ny513.out] at ho;replace HB:=aM (hb);have HO515:=aM (ho);clear zb;clear ho hb hg hat))
 go_roundg k2
 case measure=>have:=HJ5.out;have:=HK2.out;omega
 case rel=>exact⟨(zk),(wrap64 (ya+1)),(pF),H',⟨pO2 HJ5 HK2⟩,⟨pR HO515.out⟩,⟨qB HB⟩⟩
mutual
def fan.l0:Nat→List Int→List (List Int)→Int→Int→Option ((List (List Int)))
 | 0,_,_,_,_=>none
 | k+1,x0,x3,x14,x15=>if x15<x14 then(fan.l1 k x0 x3 x15 ([]:List (List Int)) x14 x15 (x3.length:Int) 0)else(some x3)
def fan.l1:Nat→List Int→List (List Int)→Int→List (List Int)→Int→Int→Int→Int→Option ((List (List Int)))
 | 0,_,_,_,_,_,_,_,_=>none
 | k+1,x0,x3,x4,x5,x14,x15,x19,x20=>if x20<x19 then(if 0≤x4 then(if x4<(x0.length:Int)then(fan.l2 k x0 x3 x4 x5 x20 x14 x15 x19 x20 (rd x0 x4) 0)else(none))else(none))else(fan.l0 k x0 x5 x14 (wrap64 (x15+1)))
def fan.l2:Nat→List Int→List (List Int)→Int→List (List Int)→Int→Int→Int→Int→Int→Int→Int→Option ((List (List Int)))
 | 0,_,_,_,_,_,_,_,_,_,_,_=>none
 | k+1,x0,x3,x4,x5,x6,x14,x15,x19,x20,x26,x27=>if x27<x26 then((some (([]:List Int):List Int)).bind fun zf=>(if 0≤x6 then(if x6<(x3.length:Int)then(if zf.length+(rd_L1 x3 x6).length<17592186044416 then((some (zf++(rd_L1 x3 x6):List Int)).bind fun zd=>(if zd.length<17592186044416 then(if x5.length<5864062014805 then(fan.l2 k x0 x3 x4 (x5++[(zd++[x27])]) x6 x14 x15 x19 x20 x26 (wrap64 (x27+1)))else(none))else(none)))else(none))else(none))else(none)))else(fan.l1 k x0 x3 x4 x5 x14 x15 x19 (wrap64 (x20+1)))
end
def fan.f (k:Nat) (l0:List Int):Option ((List (List Int))):=(fag.f k l0).bind fun ze=>(if ze=0 then(fan.l0 k l0 (([(([]:List Int))]:List (List Int))) (l0.length:Int) 0)else(some ([]:List (List Int))))
theorem fan.calls (k:Nat)(A0:Option Addr)(c0:Nat)(l0:List Int)(r:List (List Int))(w:World)(hr0:Kd.C (Kd.int .i64) w A0 l0.length l0)(hc0:l0.length≤c0)(h:fan.f k l0=some r) :
  Calls Try.prog 48 #[.slice A0 l0.length c0] w fun e w'=>∃ v0_:Value,e=.returned (v0_)∧Kd.N (Kd.slice 3 (Kd.int .i64)) 22 w' w.heap.size (fun k_=>(w.heap.size≤k_)) v0_ r∧Below w.heap.size w w':=by
 have HR0:=aM hr0
 have HC0:=aM hc0
 clear hr0 hc0
 have HB:=aM (Below.refl w.heap.size w)
 have H:((fag.f k l0).bind fun ze=>(if ze=0 then(fan.l0 k l0 (([(([]:List Int))]:List (List Int))) (l0.length:Int) 0)else(some ([]:List (List Int)))))=some r:=h
 clear h
 replace H:=oB H
 obtain⟨ze,A20,H⟩:=H
 try dsimp only at H
 have A2:=aM A20
 clear A20
 by_cases c3:ze=0
 rotate_left
 ·rw[iN c3] at H
  have z0:=bF c3
  have z1:=nT c3
  obtain rfl:=Option.some.inj H
  go_enter Try.func48,Try.ntmps48
  go_wp2_with (first|((with_reducible refine gC 30 rfl ?_);refine gL 9 Try.func30 #[.slice A0 l0.length c0] ?_;(with_reducible refine(fag.calls k _ _ l0 ze _ ?s1 HC0.out A2.out).mono ?_);(case s1=>exact pC HR0.out);rintro e w' ⟨rfl,⟨nd,rfl⟩⟩;refine⟨_,rfl,?_⟩))
  go_ret
  exact⟨_,pE,pN,qB HB⟩
 rw[ip c3] at H
 have z0:=bT c3
 have z1:=nF c3
 clear c3
 obtain⟨zj,zl⟩:∃ y_:List Int,y_=(([]:List Int)):=⟨_,rfl⟩
 replace H:(fan.l0 k l0 (([zj]:List (List Int))) (l0.length:Int) 0)=some r:=pH zl H
 have zs:=aM zl
 clear zl
 obtain⟨z2,zm⟩:∃ y_:List (List Int),y_=(([zj]:List (List Int))):=⟨_,rfl⟩
 replace H:(fan.l0 k l0 z2 (l0.length:Int) 0)=some r:=pH zm H
 have zt:=aM zm
 clear zm
 have H':=aM H
 clear H
 go_enter Try.func48,Try.ntmps48
 go_wp2_with (first|((with_reducible refine gC 30 rfl ?_);refine gL 9 Try.func30 #[.slice A0 l0.length c0] ?_;(with_reducible refine(fag.calls k _ _ l0 ze _ ?s1 HC0.out A2.out).mono ?_);(case s1=>exact pC HR0.out);rintro e w' ⟨rfl,⟨nd,rfl⟩⟩;refine⟨_,rfl,?_⟩)|((with_reducible refine gD 11 rfl ?_);refine Kd.R_lit (Kd.int .i64) _ 3 ?hg (N:=11) ?hd (xs:=([]:List Int)) (inner:=[]) (ok:=fun _=>True) (okp:=fun _=>True) ?hr ?hp (fun _ hk=>hk) trivial (Below.refl _ _) (Nat.le_refl _) (by simp) ?_;(case hd=>rfl);(case hg=>rfl);(case hr=>first|(go_simp;done)|(go_simp;rfl));(case hp=>exact(Reps.none _ _));intro v489 w4 ho5 hb hg_ hnew_;clear hg_ hnew_;(first|rw[← zs.out] at ho5|(simp only[Int.reduceToNat] at ho5;rw[← zs.out] at ho5));have zg:=aM (Kd.R_lower (Kd.R_newM (M:=fun k_=>(w.heap.size≤k_)) ho5 (below_size (qB HB)) (fun k_ h_=>h_)) (below_size (qB HB)));replace HB:=bS (qB HB) hb;clear hb ho5;obtain⟨Ao6,co6,eo6⟩:=Kd.R_slice zg.out;subst eo6)|((with_reducible refine gD 12 rfl ?_);refine Kd.N_lit (Kd.slice 3 (Kd.int .i64)) _ 22 ?hg (N':=12) ?hd (xs:=([zj]:List (List Int))) (inner:=[.slice Ao6 zj.length co6]) (ok:=(fun k_=>(w.heap.size≤k_))) (okp:=(fun k_=>(w.heap.size≤k_))) ?hr ?hp (fun _ hk=>hk) ((show ∀ k_,w4.heap.size≤k_→(fun k_=>(w.heap.size≤k_)) k_ from fun k_ hk=>(Nat.le_trans (below_size (qB HB)) hk)) _ (Nat.le_refl _)) (Below.refl _ _) (Nat.le_refl _) (by simp) ?_;(case hd=>rfl);(case hg=>rfl);(case hr=>first|(go_simp;done)|(go_simp;rfl));(case hp=>exact(Reps.one (show Kd.FK (Kd.slice 3 (Kd.int .i64)) _ _ zj [.slice Ao6 zj.length co6] from (Kd.FK_slice_mk (Kd.R_reads' (Kd.R_mono (ok':=(fun k_=>(w.heap.size≤k_))) (zg.out) (fun k_ hk=>hk.1))).2.1 (Kd.R_F (Kd.R_mono (ok':=(fun k_=>(w.heap.size≤k_))) (zg.out) (fun k_ hk=>hk.1))))) (Reps.none _ _)));intro v492 w7 ho8 hb hg_ hnew_;clear hg_ hnew_;(first|rw[← zt.out] at ho8|(simp only[Int.reduceToNat] at ho8;rw[← zt.out] at ho8));have HO493:=aM (Kd.N_lower ho8 (below_size (qB HB)));replace HB:=bS (qB HB) hb;clear zg;clear hb ho8))
 go_loopg [3,15] k (fun kq v3 v15 w'=>∃ (yb:List (List Int)) (yc:Int),v15=.int .i64 yc∧Aside0 (fan.l0 kq l0 yb (l0.length:Int) yc=some r)∧Aside0 (kq≤k)∧Aside0 (Kd.N (Kd.slice 3 (Kd.int .i64)) 22 w' w.heap.size (fun k_=>(w.heap.size≤k_)) v3 yb)∧Aside0 (Below w.heap.size w w'))
 case atStart=>exact⟨(z2),(0),(pF),H',⟨Nat.le_refl _⟩,⟨by(with_reducible repeat(first|apply Kd.N_alloc|apply Kd.N_drewN|apply Kd.N_drew));exact HO493.out⟩,⟨qB HB⟩⟩
 clear H'
 try clear z0
 try clear z1
 obtain⟨yb,yc,rfl,HA,HK1,za,HB⟩:=hrel
 cases gk with
 | zero=>exact absurd HA.out (by simp[fan.l0])
 | succ k1=>?_
 have H:=HA.out
 clear HA
 simp only[fan.l0] at H
 by_cases c9:yc<(l0.length:Int)
 rotate_left
 ·rw[iN c9] at H
  have z3:=dF c9
  clear c9
  obtain rfl:=Option.some.inj H
  go_wp2
  go_ret
  exact⟨_,pE,by(with_reducible repeat(first|apply Kd.N_alloc|apply Kd.N_drewN|apply Kd.N_drew));exact za.out,qB HB⟩
 rw[ip c9] at H
 have z3:=dT c9
 clear c9
 have H':=aM H
 clear H
 obtain⟨zr,zc,yt⟩:=Kd.N_slice za.out
 subst yt
 go_wp2
 go_loopg [5,20] k1 (fun kq v5 v20 w'=>∃ (yj:List (List Int)) (ya:Int),v20=.int .i64 ya∧Aside0 (fan.l1 kq l0 yb yc yj (l0.length:Int) yc (yb.length:Int) ya=some r)∧Aside0 (kq≤k1)∧Aside0 (Kd.N (Kd.slice 3 (Kd.int .i64)) 22 w' w.heap.size (fun k_=>(w.heap.size≤k_)∧some k_≠(v5:Value).ownBlock) (.slice zr yb.length zc) yb)∧Aside0 (Kd.N (Kd.slice 3 (Kd.int .i64)) 22 w' w.heap.size (fun k_=>(w.heap.size≤k_)∧some k_≠((.slice zr yb.length zc):Value).ownBlock) v5 yj)∧Aside0 (Below w.heap.size w w'))
 case atStart=>exact⟨(([]:List (List Int))),(0),(pF),H',⟨Nat.le_refl _⟩,⟨by(with_reducible repeat(first|apply Kd.N_alloc|apply Kd.N_drewN|apply Kd.N_drew));exact Kd.N_mono za.out (fun _ hk=>⟨hk,(by simp[Value.ownBlock])⟩)⟩,⟨pN⟩,⟨qB HB⟩⟩
 clear H'
 try clear z3
 obtain⟨yj,ya,rfl,HA,HK2,za,zb,HB⟩:=hrel
 cases gk with
 | zero=>exact absurd HA.out (by simp[fan.l1])
 | succ k2=>?_
 have H:=HA.out
 clear HA
 simp only[fan.l1] at H
 by_cases c11:ya<(yb.length:Int)
 rotate_left
 ·rw[iN c11] at H
  have zu:=dF c11
  clear c11
  have H':=aM H
  clear H
  go_wp2
  go_roundg k2
  case measure=>have:=HK1.out;have:=HK2.out;omega
  case rel=>exact⟨(yj),(wrap64 (yc+1)),(pF),H',⟨pO2 HK1 HK2⟩,⟨by(with_reducible repeat(first|apply Kd.N_alloc|apply Kd.N_drewN|apply Kd.N_drew));exact Kd.N_mono zb.out (fun _ hk=>hk.1)⟩,⟨qB HB⟩⟩
 rw[ip c11] at H
 have zu:=dT c11
 clear c11
 by_cases c12:0≤yc
 rotate_left
 ·rw[iN c12] at H
  cases H
 rw[ip c12] at H
 have yo:=dT c12
 clear c12
 by_cases c13:yc<(l0.length:Int)
 rotate_left
 ·rw[iN c13] at H
  cases H
 rw[ip c13] at H
 have yp:=dT c13
 clear c13
 have H':=aM H
 clear H
 obtain⟨ad494,⟨⟩,yg,yu,yv⟩:=zI HR0.out yc
 replace yg:=zW HB yg
 go_wp2
 go_loopg [5,27] k2 (fun kq v5 v27 w'=>∃ (yf:List (List Int)) (yd:Int),v27=.int .i64 yd∧Aside0 (fan.l2 kq l0 yb yc yf ya (l0.length:Int) yc (yb.length:Int) ya (rd l0 yc) yd=some r)∧Aside0 (kq≤k2)∧Aside0 (Kd.N (Kd.slice 3 (Kd.int .i64)) 22 w' w.heap.size (fun k_=>(w.heap.size≤k_)∧some k_≠(v5:Value).ownBlock) (.slice zr yb.length zc) yb)∧Aside0 (Kd.N (Kd.slice 3 (Kd.int .i64)) 22 w' w.heap.size (fun k_=>(w.heap.size≤k_)∧some k_≠((.slice zr yb.length zc):Value).ownBlock) v5 yf)∧Aside0 (Below w.heap.size w w'))
 case atStart=>exact⟨(yj),(0),(pF),H',⟨Nat.le_refl _⟩,⟨by(with_reducible repeat(first|apply Kd.N_alloc|apply Kd.N_drewN|apply Kd.N_drew));exact za.out⟩,⟨by(with_reducible repeat(first|apply Kd.N_alloc|apply Kd.N_drewN|apply Kd.N_drew));exact zb.out⟩,⟨qB HB⟩⟩
 clear H'
 try clear zu
 try clear yo
 try clear yp
 try clear yg
 try clear yu
 try clear yv
 obtain⟨yf,yd,rfl,HA,HK3,za,zb,HB⟩:=hrel
 cases gk with
 | zero=>exact absurd HA.out (by simp[fan.l2])
 | succ k3=>?_
 have H:=HA.out
 clear HA
 simp only[fan.l2] at H
 by_cases c14:yd<(rd l0 yc)
 rotate_left
 ·rw[iN c14] at H
  have yq:=dF c14
  clear c14
  have H':=aM H
  clear H
  go_wp2
  go_roundg k3
  case measure=>have:=HK1.out;have:=HK2.out;have:=HK3.out;omega
  case rel=>exact⟨(yf),(wrap64 (ya+1)),(pF),H',⟨by have:=HK1.out;have:=HK2.out;have:=HK3.out;omega⟩,⟨by(with_reducible repeat(first|apply Kd.N_alloc|apply Kd.N_drewN|apply Kd.N_drew));exact za.out⟩,⟨by(with_reducible repeat(first|apply Kd.N_alloc|apply Kd.N_drewN|apply Kd.N_drew));exact zb.out⟩,⟨qB HB⟩⟩
 rw[ip c14] at H
 have yq:=dT c14
 clear c14
 obtain⟨zf,zn⟩:∃ y_:List Int,y_=(([]:List Int)):=⟨_,rfl⟩
 replace H:(if 0≤ya then(if ya<(yb.length:Int)then(if zf.length+(rd_L1 yb ya).length<17592186044416 then((some (zf++(rd_L1 yb ya):List Int)).bind fun zd=>(if zd.length<17592186044416 then(if yf.length<5864062014805 then(fan.l2 k3 l0 yb yc (yf++[(zd++[yd])]) ya (l0.length:Int) yc (yb.length:Int) ya (rd l0 yc) (wrap64 (yd+1)))else(none))else(none)))else(none))else(none))else(none))=some r:=pH zn H
 have zv:=aM zn
 clear zn
 by_cases c15:0≤ya
 rotate_left
 ·rw[iN c15] at H
  cases H
 rw[ip c15] at H
 have c15b0:=dT c15
 clear c15
 by_cases c16:ya<(yb.length:Int)
 rotate_left
 ·rw[iN c16] at H
  cases H
 rw[ip c16] at H
 have c16b0:=dT c16
 clear c16
 by_cases c17:zf.length+(rd_L1 yb ya).length<17592186044416
 rotate_left
 ·rw[iN c17] at H
  cases H
 rw[ip c17] at H
 have LMc17:=aM c17
 clear c17
 obtain⟨zd,zo⟩:∃ y_:List Int,y_=(zf++(rd_L1 yb ya)):=⟨_,rfl⟩
 replace H:(if zd.length<17592186044416 then(if yf.length<5864062014805 then(fan.l2 k3 l0 yb yc (yf++[(zd++[yd])]) ya (l0.length:Int) yc (yb.length:Int) ya (rd l0 yc) (wrap64 (yd+1)))else(none))else(none))=some r:=pH zo H
 have Ny499:=aM zo
 clear zo
 by_cases c18:zd.length<17592186044416
 rotate_left
 ·rw[iN c18] at H
  cases H
 rw[ip c18] at H
 have LMc18:=aM c18
 clear c18
 obtain⟨zk,zp⟩:∃ y_:List Int,y_=(zd++[yd]):=⟨_,rfl⟩
 replace H:(if yf.length<5864062014805 then(fan.l2 k3 l0 yb yc (yf++[zk]) ya (l0.length:Int) yc (yb.length:Int) ya (rd l0 yc) (wrap64 (yd+1)))else(none))=some r:=pH zp H
 have Ny502:=aM zp
 clear zp
 by_cases c19:yf.length<5864062014805
 rotate_left
 ·rw[iN c19] at H
  cases H
 rw[ip c19] at H
 have LMc19:=aM c19
 clear c19
 obtain⟨z4,zq⟩:∃ y_:List (List Int),y_=(yf++[zk]):=⟨_,rfl⟩
 replace H:(fan.l2 k3 l0 yb yc z4 ya (l0.length:Int) yc (yb.length:Int) ya (rd l0 yc) (wrap64 (yd+1)))=some r:=pH zq H
 have Ny505:=aM zq
 clear zq
 have H':=aM H
 clear H
 go_wp2_with (first|((with_reducible refine gD 31 rfl ?_);refine Kd.R_lit (Kd.int .i64) _ 3 ?hg (N:=31) ?hd (xs:=([]:List Int)) (inner:=[]) (ok:=fun _=>True) (okp:=fun _=>True) ?hr ?hp (fun _ hk=>hk) trivial (Below.refl _ _) (Nat.le_refl _) (by simp) ?_;(case hd=>rfl);(case hg=>rfl);(case hr=>first|(go_simp;done)|(go_simp;rfl));(case hp=>exact(Reps.none _ _));intro v496 w20 ho21 hb hg_ hnew_;clear hg_ hnew_;(first|rw[← zv.out] at ho21|(simp only[Int.reduceToNat] at ho21;rw[← zv.out] at ho21));replace za:=aM (Kd.N_elder' (by(with_reducible repeat(first|apply Kd.N_alloc|apply Kd.N_drewN|apply Kd.N_drew));exact za.out) (Kd.R_base ho21) hb);replace zb:=aM (Kd.N_elder' (by(with_reducible repeat(first|apply Kd.N_alloc|apply Kd.N_drewN|apply Kd.N_drew));exact zb.out) (Kd.R_base ho21) hb);have zw:=aM (Kd.R_lower (Kd.R_newM (M:=fun k_=>(w.heap.size≤k_)) ho21 (below_size (qB HB)) (fun k_ h_=>h_)) (below_size (qB HB)));replace HB:=bS (qB HB) hb;clear hb ho21;have yr:0≤(ya:Int):=oD;have ys:ya<(yb.length:Int):=oD;obtain⟨ye,A498_0,c498_0,yw,yl,yh,yi⟩:=at_L1 (Kd.N_reads' za.out).2.2 ya yr ys;cases yw;obtain⟨ce498,ym,yn,yk⟩:=Kd.N_get za.out [] ya yr (by first|exact ys|exact of_decide_eq_true pD|(have e_:=(Kd.N_reads' za.out).1;omega));obtain⟨ua498_0,uc498_0,rfl,ul498_0,ge498_0⟩:=Kd.FK_slice_open yn;have hv498_0:=yk 0 _ rfl;rw[Nat.add_zero,show ((Kd.slice 3 (Kd.int .i64))).sz=1 from rfl,Nat.mul_one] at hv498_0;replace hv498_0:=Option.some.inj (hv498_0.symm.trans yl);injection hv498_0 with hva_ hvn_ hvc_;rw[hva_] at ge498_0;rw[hvc_] at ul498_0;have HL498_0:=aM (show Kd.V (Kd.int .i64) 3 _ w.heap.size _ _ (rd_L1 yb ya) from Kd.V_mk ul498_0 ge498_0);clear hva_ hvn_ hvc_ ge498_0 ul498_0;clear yk ym;have zh:=aM yi;have HC498_0:=aM yh;clear yi yh)|((with_reducible refine gate_builtin (b:=.append) (xs:=#[.tmp 31,.tmp 35]) rfl ?_);at_builtin;refine Kd.R_append_rows (Kd.int .i64) (w0:=w) w.heap.size rfl (.tmp 31) (.tmp 35) 22 3 (.int .i64 0) 8 rfl Try.underlying22 info3 rfl (by decide) (by omega) v496 zf (rd_L1 yb ya) _ _ _ (fun k_=>(w.heap.size≤k_)) (fun _=>False) rfl rfl ?aO ?aR (fun _ _ h=>h) (fun _ h=>h.elim) ?aF ?aB ?aS ?aL ?_;(case aR=>repeat(first|exact(by repeat(first|(with_reducible exact zh.out)|(with_reducible refine Kd.C_alloc ?_ _)|(with_reducible refine Kd.C_drewN ?_ _)|(with_reducible refine Kd.C_drew ?_)|exact zh.out))|(with_reducible refine Kd.C_alloc ?_ _)|(with_reducible refine Kd.C_drewN ?_ _)|(with_reducible refine Kd.C_drew ?_)));(case aB=>exact(qB HB));(case aF=>exact(fun k_ hk=>(Nat.le_trans (below_size (qB HB)) hk)));(case aO=>exact(by(with_reducible repeat(first|apply rA|apply rN|apply rD));exact Kd.R_mono zw.out (fun _ hk=>hk.1)));(case aS=>exact(below_size (qB HB)));(case aL=>have:=LMc17.out;omega);intro v500 w22 ho hb hg hat;rw[← Ny499.out] at ho;replace za:=aM (Kd.N_afterv (ok:=(fun k_=>(w.heap.size≤k_)∧some k_≠(u5:Value).ownBlock)) (by(with_reducible repeat(first|apply Kd.N_alloc|apply Kd.N_drewN|apply Kd.N_drew));exact za.out) hg hat);replace zb:=aM (Kd.N_afterv (ok:=(fun k_=>(w.heap.size≤k_)∧some k_≠(.slice (some ye) yb.length zc:Value).ownBlock)) (by(with_reducible repeat(first|apply Kd.N_alloc|apply Kd.N_drewN|apply Kd.N_drew));exact zb.out) hg hat);replace HL498_0:=aM (Kd.V_afterv (ok:=(fun k_=>(w.heap.size≤k_)∧some k_≠(.slice (some ye) yb.length zc:Value).ownBlock∧some k_≠(u5:Value).ownBlock)) (by(with_reducible repeat(first|apply Kd.V_alloc|apply Kd.V_drewN|apply Kd.V_drew));exact Kd.V_mono HL498_0.out (fun _ hk=>⟨⟨hk.1.1.1,⟨hk.2,hk.1.1.2⟩⟩,hk.1.2⟩)) hg hat);replace HB:=aM (hb);have zx:=aM (ho);clear zw;clear ho hb hg hat)|((with_reducible refine gate_builtin (b:=.append) (xs:=#[.tmp 36,.tmp 38]) rfl ?_);at_builtin;refine Kd.R_append (Kd.int .i64) (w0:=w) w.heap.size rfl (.tmp 36) (.tmp 38) 22 3 (.int .i64 0) 8 rfl Try.underlying22 info3 rfl (by decide) (by omega) v500 zd yd [.int .i64 yd] (fun k_=>(w.heap.size≤k_)) (fun _=>False) rfl rfl ?aP (fun _ hk=>hk.elim) ?aF ?aO ?aB ?aS ?aL ?_;(case aP=>exact rfl);(case aB=>exact(qB HB));(case aF=>exact(fun k_ hk=>(Nat.le_trans (below_size (qB HB)) hk)));(case aO=>exact(pR zx.out));(case aS=>exact(below_size (qB HB)));(case aL=>have:=LMc18.out;omega);intro v503 w23 ho hb hg hat;rw[← Ny502.out] at ho;replace za:=aM (Kd.N_afterv (ok:=(fun k_=>(w.heap.size≤k_)∧some k_≠(u5:Value).ownBlock)) (by(with_reducible repeat(first|apply Kd.N_alloc|apply Kd.N_drewN|apply Kd.N_drew));exact za.out) hg hat);replace zb:=aM (Kd.N_afterv (ok:=(fun k_=>(w.heap.size≤k_)∧some k_≠(.slice (some ye) yb.length zc:Value).ownBlock)) (by(with_reducible repeat(first|apply Kd.N_alloc|apply Kd.N_drewN|apply Kd.N_drew));exact zb.out) hg hat);replace HL498_0:=aM (Kd.V_afterv (ok:=(fun k_=>(w.heap.size≤k_)∧some k_≠(.slice (some ye) yb.length zc:Value).ownBlock∧some k_≠(u5:Value).ownBlock)) (pV HL498_0.out) hg hat);replace HB:=aM (hb);have zi:=aM (ho);clear zx;clear ho hb hg hat;obtain⟨zy,zz,yx⟩:=Kd.R_slice zi.out;subst yx)|((with_reducible refine gate_builtin (b:=.append) (xs:=#[.tmp 30,.tmp 40]) rfl ?_);at_builtin;refine Kd.N_append (Kd.slice 3 (Kd.int .i64)) (w0:=w) w.heap.size rfl (.tmp 30) (.tmp 40) 25 22 (.slice none 0 0) 24 rfl Try.underlying25 info22 rfl (by decide) (by omega) u5 yf zk [.slice zy zk.length zz] (fun k_=>(w.heap.size≤k_)∧some k_≠(.slice (some ye) yb.length zc:Value).ownBlock) (fun k_=>((fun k_=>(w.heap.size≤k_)∧some k_≠(.slice (some ye) yb.length zc:Value).ownBlock)) k_∧some k_≠(u5:Value).ownBlock) rfl rfl ?aP (fun _ hk=>hk) ?aF ?aO ?aB ?aS ?aL ?_;(case aP=>exact(Kd.FK_slice_mk (Kd.R_reads' (Kd.R_mono (ok':=(fun k_=>((fun k_=>(w.heap.size≤k_)∧some k_≠(.slice (some ye) yb.length zc:Value).ownBlock)) k_∧some k_≠(u5:Value).ownBlock)) (Kd.R_apart' (Kd.R_apart' (zi.out) (Kd.N_typed za.out) (by decide)) (Kd.N_typed zb.out) (by decide)) (fun k_ hk=>⟨⟨hk.1.1,hk.1.2⟩,hk.2⟩))).2.1 (Kd.R_F (Kd.R_mono (ok':=(fun k_=>((fun k_=>(w.heap.size≤k_)∧some k_≠(.slice (some ye) yb.length zc:Value).ownBlock)) k_∧some k_≠(u5:Value).ownBlock)) (Kd.R_apart' (Kd.R_apart' (zi.out) (Kd.N_typed za.out) (by decide)) (Kd.N_typed zb.out) (by decide)) (fun k_ hk=>⟨⟨hk.1.1,hk.1.2⟩,hk.2⟩)))));(case aB=>exact(qB HB));(case aF=>exact(fun k_ hk=>⟨(Nat.le_trans (below_size (qB HB)) hk),Kd.fresh' (Kd.N_lt (by(with_reducible repeat(first|apply Kd.N_alloc|apply Kd.N_drewN|apply Kd.N_drew));exact za.out)) k_ hk⟩));(case aO=>exact(by(with_reducible repeat(first|apply Kd.N_alloc|apply Kd.N_drewN|apply Kd.N_drew));exact Kd.N_mono zb.out (fun _ hk=>⟨hk.1.1,hk.1.2⟩)));(case aS=>exact(below_size (qB HB)));(case aL=>have:=LMc19.out;omega);intro v506 w24 ho hb hg hat;rw[← Ny505.out] at ho;replace za:=aM (Kd.N_afterv (ok:=(fun k_=>(w.heap.size≤k_)∧some k_≠(.slice zy zk.length zz:Value).ownBlock)) (by(with_reducible repeat(first|apply Kd.N_alloc|apply Kd.N_drewN|apply Kd.N_drew));exact Kd.N_mono za.out (fun _ hk=>⟨⟨hk.1.1,hk.2⟩,hk.1.2⟩)) hg hat);replace HL498_0:=aM (Kd.V_afterv (ok:=(fun k_=>(w.heap.size≤k_)∧some k_≠(.slice (some ye) yb.length zc:Value).ownBlock∧some k_≠(.slice zy zk.length zz:Value).ownBlock)) (by(with_reducible repeat(first|apply Kd.V_alloc|apply Kd.V_drewN|apply Kd.V_drew));exact Kd.V_mono HL498_0.out (fun _ hk=>⟨⟨hk.1.1,⟨hk.1.2.1,hk.2⟩⟩,hk.1.2.2⟩)) hg hat);replace HB:=aM (hb);have HO507:=aM (ho);clear zb zi;clear ho hb hg hat))
 go_roundg k3
 case measure=>have:=HK1.out;have:=HK2.out;have:=HK3.out;omega
 case rel=>exact⟨(z4),(wrap64 (yd+1)),(pF),H',⟨by have:=HK1.out;have:=HK2.out;have:=HK3.out;omega⟩,⟨by(with_reducible repeat(first|apply Kd.N_alloc|apply Kd.N_drewN|apply Kd.N_drew));exact Kd.N_mono za.out (fun _ hk=>⟨hk.1.1,hk.2⟩)⟩,⟨by(with_reducible repeat(first|apply Kd.N_alloc|apply Kd.N_drewN|apply Kd.N_drew));exact HO507.out⟩,⟨qB HB⟩⟩
def fal.l0:Nat→List Int→List Int→Int→Int→Option (Bool)
 | 0,_,_,_,_=>none
 | k+1,x0,x1,x12,x13=>if x13<x12 then(if 0≤x13 then(if x13<(x0.length:Int)then(if x13<(x1.length:Int)then(if(rd x0 x13)=(rd x1 x13)then(fal.l0 k x0 x1 x12 (wrap64 (x13+1)))else(some false))else(none))else(none))else(none))else(some true)
def fal.f (k:Nat) (l0 l1:List Int):Option (Bool):=if(l0.length:Int)=(l1.length:Int)then(fal.l0 k l0 l1 (l0.length:Int) 0)else(some false)
theorem fal.calls (k:Nat)(A0:Option Addr)(c0:Nat)(l0:List Int)(A1:Option Addr)(c1:Nat)(l1:List Int)(r:Bool)(w:World)(hr0:Kd.C (Kd.int .i64) w A0 l0.length l0)(hc0:l0.length≤c0)(hr1:Kd.C (Kd.int .i64) w A1 l1.length l1)(hc1:l1.length≤c1)(h:fal.f k l0 l1=some r) :
  Calls Try.prog 82 #[.slice A0 l0.length c0,.slice A1 l1.length c1] w fun e w'=>e=.returned (.bool r)∧Drawn0 w w':=by
 have HR0:=aM hr0
 have HC0:=aM hc0
 clear hr0 hc0
 have HR1:=aM hr1
 have HC1:=aM hc1
 clear hr1 hc1
 have H:(if(l0.length:Int)=(l1.length:Int)then(fal.l0 k l0 l1 (l0.length:Int) 0)else(some false))=some r:=h
 clear h
 by_cases c3:(l0.length:Int)=(l1.length:Int)
 rotate_left
 ·rw[iN c3] at H
  have za:=bF c3
  have zb:=nT c3
  have zc:(l0.length==l1.length)=false:=by first|simpa using c3|(simp at c3 ⊢;omega)
  obtain rfl:=Option.some.inj H
  go_enter Try.func82,Try.ntmps82
  go_wp2
  repeat(go_quiet (fail);try go_wp2)
  go_ret
  exact⟨pF,pW⟩
 rw[ip c3] at H
 have za:=bT c3
 have zb:=nF c3
 have zc:(l0.length==l1.length)=true:=by first|simpa using c3|(simp at c3 ⊢;omega)
 clear c3
 have H':=aM H
 clear H
 go_enter Try.func82,Try.ntmps82
 go_wp2
 repeat(go_quiet (fail);try go_wp2)
 go_loopg [13] k (fun kq v13 w'=>∃ (ya:Int),v13=.int .i64 ya∧Aside0 (fal.l0 kq l0 l1 (l0.length:Int) ya=some r)∧Aside0 (kq≤k)∧Drawn0 w w')
 case atStart=>exact⟨(0),(pF),H',⟨Nat.le_refl _⟩,pW⟩
 clear H'
 try clear c1
 try clear za
 try clear zb
 try clear zc
 obtain⟨ya,rfl,HA,HK1,⟨m1,rfl⟩⟩:=hrel
 cases gk with
 | zero=>exact absurd HA.out (by simp[fal.l0])
 | succ k1=>?_
 have H:=HA.out
 clear HA
 simp only[fal.l0] at H
 by_cases c4:ya<(l0.length:Int)
 rotate_left
 ·rw[iN c4] at H
  have yf:=dF c4
  clear c4
  obtain rfl:=Option.some.inj H
  go_wp2
  repeat(go_quiet (fail);try go_wp2)
  go_ret
  exact⟨pF,pW⟩
 rw[ip c4] at H
 have yf:=dT c4
 clear c4
 by_cases c5:0≤ya
 rotate_left
 ·rw[iN c5] at H
  cases H
 rw[ip c5] at H
 have c5b0:=dT c5
 clear c5
 by_cases c6:ya<(l0.length:Int)
 rotate_left
 ·rw[iN c6] at H
  cases H
 rw[ip c6] at H
 have c6b0:=dT c6
 clear c6
 by_cases c7:ya<(l1.length:Int)
 rotate_left
 ·rw[iN c7] at H
  cases H
 rw[ip c7] at H
 have c7b0:=dT c7
 clear c7
 by_cases c8:(rd l0 ya)=(rd l1 ya)
 rotate_left
 ·rw[iN c8] at H
  have yg:=bF c8
  have yh:=nT c8
  obtain rfl:=Option.some.inj H
  obtain⟨yd,⟨⟩,yb,yi,yj⟩:=zI HR0.out ya
  obtain⟨ye,⟨⟩,yc,yk,yl⟩:=zI HR1.out ya
  go_wp2
  repeat(go_quiet (fail);try go_wp2)
  go_ret
  exact⟨pF,pW⟩
 rw[ip c8] at H
 have yg:=bT c8
 have yh:=nF c8
 clear c8
 have H':=aM H
 clear H
 obtain⟨yd,⟨⟩,yb,yi,yj⟩:=zI HR0.out ya
 obtain⟨ye,⟨⟩,yc,yk,yl⟩:=zI HR1.out ya
 go_wp2
 repeat(go_quiet (fail);try go_wp2)
 go_roundg k1
 case measure=>have:=HK1.out;omega
 case rel=>exact⟨(wrap64 (ya+1)),(pF),H',⟨pO1 HK1⟩,pW⟩
def fao.l0:Nat→List Int→List (List Int)→Int→Int→Option (Int)
 | 0,_,_,_,_=>none
 | k+1,x1,x5,x10,x11=>if x11<x10 then(if 0≤x11 then(if x11<(x5.length:Int)then((fal.f k (rd_L1 x5 x11) x1).bind fun zf=>(if zf=true then(some x11)else(fao.l0 k x1 x5 x10 (wrap64 (x11+1)))))else(none))else(none))else(some (-1))
def fao.f (k:Nat) (l0 l1:List Int):Option (Int):=(fan.f k l0).bind fun za=>(fao.l0 k l1 za (za.length:Int) 0)
theorem fao.calls (k:Nat)(A0:Option Addr)(c0:Nat)(l0:List Int)(A1:Option Addr)(c1:Nat)(l1:List Int)(r:Int)(w:World)(hr0:Kd.C (Kd.int .i64) w A0 l0.length l0)(hc0:l0.length≤c0)(hr1:Kd.C (Kd.int .i64) w A1 l1.length l1)(hc1:l1.length≤c1)(h:fao.f k l0 l1=some r) :
  Calls Try.prog 64 #[.slice A0 l0.length c0,.slice A1 l1.length c1] w fun e w'=>e=.returned (.int .i64 r)∧Below w.heap.size w w':=by
 have HR0:=aM hr0
 have HC0:=aM hc0
 clear hr0 hc0
 have HR1:=aM hr1
 have HC1:=aM hc1
 clear hr1 hc1
 have HB:=aM (Below.refl w.heap.size w)
 have H:((fan.f k l0).bind fun za=>(fao.l0 k l1 za (za.length:Int) 0))=some r:=h
 clear h
 replace H:=oB H
 obtain⟨za,A30,H⟩:=H
 try dsimp only at H
 have A3:=aM A30
 clear A30
 have H':=aM H
 clear H
 go_enter Try.func64,Try.ntmps64
 go_wp2_with (first|((with_reducible refine gC 48 rfl ?_);refine gL 8 Try.func48 #[.slice A0 l0.length c0] ?_;(with_reducible refine(fan.calls k _ _ l0 za _ ?s1 HC0.out A3.out).mono ?_);(case s1=>exact pC HR0.out);rintro e w4 ⟨v520,rfl,ho0,hb⟩;refine⟨_,rfl,?_⟩;have ze:=aM (Kd.N_lower (Kd.N_mono (ok':=fun k_=>True) ho0 (fun k_ hk_=>trivial)) (below_size (qB HB)));replace HB:=bS (qB HB) hb;obtain⟨Ao5,co5,eo5⟩:=Kd.N_slice ze.out;subst eo5))
 go_loopg [11] k (fun kq v11 w'=>∃ (ya:Int),v11=.int .i64 ya∧Aside0 (fao.l0 kq l1 za (za.length:Int) ya=some r)∧Aside0 (kq≤k)∧Aside0 (Kd.N (Kd.slice 3 (Kd.int .i64)) 22 w' w.heap.size (fun _=>True) (.slice Ao5 za.length co5) za)∧Aside0 (Below w.heap.size w w'))
 case atStart=>exact⟨(0),(pF),H',⟨Nat.le_refl _⟩,⟨by(with_reducible repeat(first|apply Kd.N_alloc|apply Kd.N_drewN|apply Kd.N_drew));exact ze.out⟩,⟨qB HB⟩⟩
 clear H'
 try clear c1
 obtain⟨ya,rfl,HA,HK1,zd,HB⟩:=hrel
 cases gk with
 | zero=>exact absurd HA.out (by simp[fao.l0])
 | succ k1=>?_
 have H:=HA.out
 clear HA
 simp only[fao.l0] at H
 by_cases c6:ya<(za.length:Int)
 rotate_left
 ·rw[iN c6] at H
  have yo:=dF c6
  clear c6
  obtain rfl:=Option.some.inj H
  go_wp2
  go_ret
  exact⟨pE,qB HB⟩
 rw[ip c6] at H
 have yo:=dT c6
 clear c6
 by_cases c7:0≤ya
 rotate_left
 ·rw[iN c7] at H
  cases H
 rw[ip c7] at H
 have c7b0:=dT c7
 clear c7
 by_cases c8:ya<(za.length:Int)
 rotate_left
 ·rw[iN c8] at H
  cases H
 rw[ip c8] at H
 have c8b0:=dT c8
 clear c8
 replace H:=oB H
 obtain⟨zf,A90,H⟩:=H
 try dsimp only at H
 have A9:=aM A90
 clear A90
 by_cases c10:zf=true
 ·subst c10
  rw[ip rfl] at H
  obtain rfl:=Option.some.inj H
  have yj:0≤(ya:Int):=oD
  have yk:ya<(za.length:Int):=oD
  obtain⟨ym,yf,yg,yl,ye,yb,yc⟩:=at_L1 (Kd.N_reads' zd.out).2.2 ya yj yk
  cases yl
  obtain⟨yn,yh,yi,yd⟩:=Kd.N_get zd.out [] ya yj (by first|exact yk|exact of_decide_eq_true pD|(have e_:=(Kd.N_reads' zd.out).1;omega))
  obtain⟨ua522_0,uc522_0,rfl,ul522_0,ge522_0⟩:=Kd.FK_slice_open yi
  have hv522_0:=yd 0 _ rfl
  rw[Nat.add_zero,show ((Kd.slice 3 (Kd.int .i64))).sz=1 from rfl,Nat.mul_one] at hv522_0
  replace hv522_0:=Option.some.inj (hv522_0.symm.trans ye)
  injection hv522_0 with hva_ hvn_ hvc_
  rw[hva_] at ge522_0
  rw[hvc_] at ul522_0
  have HL522_0:=aM (show Kd.V (Kd.int .i64) 3 _ w.heap.size _ _ (rd_L1 za ya) from Kd.V_mk ul522_0 ge522_0)
  clear hva_ hvn_ hvc_ ge522_0 ul522_0
  clear yd yh
  have zb:=aM yc
  have zc:=aM yb
  clear yc yb
  go_wp2_with (first|((with_reducible refine gC 82 rfl ?_);refine gL 19 Try.func82 #[.slice yf (rd_L1 za ya).length yg,.slice A1 l1.length c1] ?_;(with_reducible refine(fal.calls k1 _ _ (rd_L1 za ya) _ _ l1 true _ ?s1 zc.out ?s3 HC1.out A9.out).mono ?_);(case s1=>repeat(first|exact(by repeat(first|(with_reducible exact zb.out)|(with_reducible refine Kd.C_alloc ?_ _)|(with_reducible refine Kd.C_drewN ?_ _)|(with_reducible refine Kd.C_drew ?_)|exact zb.out))|(with_reducible refine Kd.C_alloc ?_ _)|(with_reducible refine Kd.C_drewN ?_ _)|(with_reducible refine Kd.C_drew ?_)));(case s3=>exact sC HR1 HB);rintro e w' ⟨rfl,⟨nd,rfl⟩⟩;refine⟨_,rfl,?_⟩))
  go_ret
  exact⟨pE,qB HB⟩
 replace c10:=Bool.eq_false_iff.mpr c10
 subst c10
 rw[iN fT] at H
 have H':=aM H
 clear H
 have yj:0≤(ya:Int):=oD
 have yk:ya<(za.length:Int):=oD
 obtain⟨ym,yf,yg,yl,ye,yb,yc⟩:=at_L1 (Kd.N_reads' zd.out).2.2 ya yj yk
 cases yl
 obtain⟨yn,yh,yi,yd⟩:=Kd.N_get zd.out [] ya yj (by first|exact yk|exact of_decide_eq_true pD|(have e_:=(Kd.N_reads' zd.out).1;omega))
 obtain⟨ua522_0,uc522_0,rfl,ul522_0,ge522_0⟩:=Kd.FK_slice_open yi
 have hv522_0:=yd 0 _ rfl
 rw[Nat.add_zero,show ((Kd.slice 3 (Kd.int .i64))).sz=1 from rfl,Nat.mul_one] at hv522_0
 replace hv522_0:=Option.some.inj (hv522_0.symm.trans ye)
 injection hv522_0 with hva_ hvn_ hvc_
 rw[hva_] at ge522_0
 rw[hvc_] at ul522_0
 have HL522_0:=aM (show Kd.V (Kd.int .i64) 3 _ w.heap.size _ _ (rd_L1 za ya) from Kd.V_mk ul522_0 ge522_0)
 clear hva_ hvn_ hvc_ ge522_0 ul522_0
 clear yd yh
 have zb:=aM yc
 have zc:=aM yb
 clear yc yb
 go_wp2_with (first|((with_reducible refine gC 82 rfl ?_);refine gL 19 Try.func82 #[.slice yf (rd_L1 za ya).length yg,.slice A1 l1.length c1] ?_;(with_reducible refine(fal.calls k1 _ _ (rd_L1 za ya) _ _ l1 false _ ?s1 zc.out ?s3 HC1.out A9.out).mono ?_);(case s1=>repeat(first|exact(by repeat(first|(with_reducible exact zb.out)|(with_reducible refine Kd.C_alloc ?_ _)|(with_reducible refine Kd.C_drewN ?_ _)|(with_reducible refine Kd.C_drew ?_)|exact zb.out))|(with_reducible refine Kd.C_alloc ?_ _)|(with_reducible refine Kd.C_drewN ?_ _)|(with_reducible refine Kd.C_drew ?_)));(case s3=>exact sC HR1 HB);rintro e w' ⟨rfl,⟨nd,rfl⟩⟩;refine⟨_,rfl,?_⟩))
 go_roundg k1
 case measure=>have:=HK1.out;omega
 case rel=>exact⟨(wrap64 (ya+1)),(pF),H',⟨pO1 HK1⟩,⟨by(with_reducible repeat(first|apply Kd.N_alloc|apply Kd.N_drewN|apply Kd.N_drew));exact zd.out⟩,⟨qB HB⟩⟩
mutual
def fbh.j0:Nat→List Int→List Int→Int→Bool→Option (List Int×List Int×List Int×Int)
 | 0,_,_,_,_=>none
 | k+1,x0,x1,x2,x22=>if x22=true then(some (([]:List Int),([]:List Int),([]:List Int),10))else(if(x0.length:Int)=(x1.length:Int)then(fbh.l0 k x0 x1 x2 (x0.length:Int) 0)else(some (([]:List Int),([]:List Int),([]:List Int),8)))
def fbh.l0:Nat→List Int→List Int→Int→Int→Int→Option (List Int×List Int×List Int×Int)
 | 0,_,_,_,_,_=>none
 | k+1,x0,x1,x2,x31,x32=>if x32<x31 then(if x32=x2 then(fbh.l0 k x0 x1 x2 x31 (wrap64 (x32+1)))else(if 0≤x32 then(if x32<(x0.length:Int)then(if x32<(x1.length:Int)then(if(rd x0 x32)=(rd x1 x32)then(fbh.l0 k x0 x1 x2 x31 (wrap64 (x32+1)))else(some (([]:List Int),([]:List Int),([]:List Int),8)))else(none))else(none))else(none)))else(if 0≤x2 then(if x2<(x0.length:Int)then(if x2<(x1.length:Int)then((fam.f k x0 x2 (wrap64 ((rd x0 x2)+(rd x1 x2)))).bind fun bt556=>(if bt556.2=0 then((fan.f k bt556.1).bind fun zn=>(fbh.l1 k x0 x1 x2 zn (zn.length:Int) 0 bt556.1 ([]:List Int) ([]:List Int)))else(some (([]:List Int),([]:List Int),([]:List Int),bt556.2))))else(none))else(none))else(none))
def fbh.l1:Nat→List Int→List Int→Int→List (List Int)→Int→Int→List Int→List Int→List Int→Option (List Int×List Int×List Int×Int)
 | 0,_,_,_,_,_,_,_,_,_=>none
 | k+1,x0,x1,x2,x12,x75,x76,zab,z3,z4=>if x76<x75 then((some (([]:List Int):List Int)).bind fun zac=>(if 0≤x76 then(if x76<(x12.length:Int)then(if zac.length+(rd_L1 x12 x76).length<17592186044416 then((some (zac++(rd_L1 x12 x76):List Int)).bind fun zh=>(if 0≤x2 then(if x2<(zh.length:Int)then(if x2<(x0.length:Int)then(if(rd zh x2)<(rd x0 x2)then(if z3.length<17592186044416 then((fao.f k x0 zh).bind fun z9=>(if z4.length<17592186044416 then(fbh.l1 k x0 x1 x2 x12 x75 (wrap64 (x76+1)) zab (z3++[0]) (z4++[z9]))else(none)))else(none))else(if z3.length<17592186044416 then((fao.f k x1 (zh.set (x2:Int).toNat (wrap64 ((rd zh x2)-(rd x0 x2))))).bind fun z5=>(if z4.length<17592186044416 then(fbh.l1 k x0 x1 x2 x12 x75 (wrap64 (x76+1)) zab (z3++[1]) (z4++[z5]))else(none)))else(none)))else(none))else(none))else(none)))else(none))else(none))else(none)))else(some (zab,z3,z4,0))
end
def fbh.f (k:Nat) (l0 l1:List Int)(a2:Int):Option (List Int×List Int×List Int×Int):=if a2<0 then(fbh.j0 k l0 l1 a2 true)else(fbh.j0 k l0 l1 a2 (decide (a2 ≥ (l0.length:Int))))
def fbh.T8:TT:=(true,[([],[]),([],[]),([0,1],[0,1]),([2],[2]),([3],[3]),([3],[3]),([4,5,3],[3,4,5]),([6,3],[3,6]),([3],[3]),([3],[3]),([8,9,3],[3,8,9]),([10,3],[3,10]),([7,11,3],[3,7,11]),([3,12],[3,12])])
def fbh.B8:List Nat:=[0,0,3,7,15,15,63,127,15,15,783,1807,4095,8191]
theorem fbh.tab8:rtab .any (opsOf Try.f37 8)=fbh.T8:=by kernel_rfl
theorem fbh.bits8:waitsOk fbh.T8.2 fbh.B8=true:=by kernel_rfl
def fbh.T11:TT:=(true,[([],[]),([],[]),([],[]),([],[]),([2,3],[2,3]),([4],[4]),([],[]),([],[]),([6,7],[6,7]),([8],[8]),([5,9],[5,9]),([0,1,10],[0,1,10]),([11],[11]),([12],[12]),([12],[12]),([13,11,0,1,2,3,4,5,6,7,8,9,10,11,12,13],[13]),([14,15,0,1,2,3,4,5,6,7,8,9,10,11,12,13,14,15],[14])])
def fbh.B11:List Nat:=[0,0,0,0,12,28,0,0,192,448,1020,2047,4095,8191,8191,16383,65535]
theorem fbh.tab11:rtab .any (opsOf Try.f37 11)=fbh.T11:=by kernel_rfl
theorem fbh.bits11:waitsOk fbh.T11.2 fbh.B11=true:=by kernel_rfl
def fbh.T20:TT:=(true,[([],[]),([],[]),([0,1],[0,1]),([2],[2]),([],[]),([],[]),([4,5],[4,5]),([6],[6]),([3,7],[3,7])])
def fbh.B20:List Nat:=[0,0,3,7,0,0,48,112,255]
theorem fbh.tab20:rtab .any (opsOf Try.f37 20)=fbh.T20:=by kernel_rfl
theorem fbh.bits20:waitsOk fbh.T20.2 fbh.B20=true:=by kernel_rfl
def fbh.T22:TT:=(true,[([],[]),([0],[0]),([],[]),([],[]),([2,3],[2,3]),([4],[4]),([1,5,4],[1,5]),([0,1,2,3,4,5,6],[]),([7,6,6,0,1,2,3,4,5,6],[6,7])])
def fbh.B22:List Nat:=[0,1,0,0,12,28,63,127,255]
theorem fbh.tab22:rtab .any (opsOf Try.f37 22)=fbh.T22:=by kernel_rfl
theorem fbh.bits22:waitsOk fbh.T22.2 fbh.B22=true:=by kernel_rfl
def fbh.T23:TT:=(true,[([],[]),([],[]),([],[]),([],[]),([2,3],[2,3]),([4],[4]),([],[]),([],[]),([6,7],[6,7]),([8],[8]),([5,9],[5,9]),([0,1,0,1,2,3,4,5,6,7,8,9,10],[0,1]),([11,10,0,1,2,3,4,5,6,7,8,9,10],[10,11])])
def fbh.B23:List Nat:=[0,0,0,0,12,28,0,0,192,448,1020,2047,4095]
theorem fbh.tab23:rtab .any (opsOf Try.f37 23)=fbh.T23:=by kernel_rfl
theorem fbh.bits23:waitsOk fbh.T23.2 fbh.B23=true:=by kernel_rfl
def fbh.T25:TT:=(true,[([],[]),([0],[0]),([],[]),([],[]),([2,3],[2,3]),([4],[4]),([1,5,4],[1,5]),([0,1,2,3,4,5,6],[]),([7,6,6,0,1,2,3,4,5,6],[6,7])])
def fbh.B25:List Nat:=[0,1,0,0,12,28,63,127,255]
theorem fbh.tab25:rtab .any (opsOf Try.f37 25)=fbh.T25:=by kernel_rfl
theorem fbh.bits25:waitsOk fbh.T25.2 fbh.B25=true:=by kernel_rfl
theorem fbh.calls (k:Nat)(A0:Option Addr)(c0:Nat)(l0:List Int)(A1:Option Addr)(c1:Nat)(l1:List Int)(a2:Int)(r1 r2 r3:List Int)(r4:Int)(w:World)(hr0:Kd.C (Kd.int .i64) w A0 l0.length l0)(hc0:l0.length≤c0)(hr1:Kd.C (Kd.int .i64) w A1 l1.length l1)(hc1:l1.length≤c1)(h:fbh.f k l0 l1 a2=some (r1,r2,r3,r4)) :
  Calls Try.prog 37 #[.slice A0 l0.length c0,.slice A1 l1.length c1,.int .i64 a2] w fun e w'=>∃ v0_ v1_ v2_:Value,e=.returned (.tuple #[.agg #[v0_,v1_,v2_],.int .i64 r4])∧Kd.R (Kd.int .i64) 3 w' w.heap.size (fun k_=>some k_≠(v1_:Value).ownBlock∧some k_≠(v2_:Value).ownBlock) v0_ r1∧Kd.R (Kd.int .i64) 3 w' w.heap.size (fun k_=>some k_≠(v0_:Value).ownBlock∧some k_≠(v2_:Value).ownBlock) v1_ r2∧Kd.R (Kd.int .i64) 3 w' w.heap.size (fun k_=>some k_≠(v0_:Value).ownBlock∧some k_≠(v1_:Value).ownBlock) v2_ r3∧Below w.heap.size w w':=by
 have hu32:=Try.underlying32
 have HR0:=aM hr0
 have HC0:=aM hc0
 clear hr0 hc0
 have HR1:=aM hr1
 have HC1:=aM hc1
 clear hr1 hc1
 have HB:=aM (Below.refl w.heap.size w)
 have H:(if a2<0 then(fbh.j0 k l0 l1 a2 true)else(fbh.j0 k l0 l1 a2 (decide (a2 ≥ (l0.length:Int)))))=some (r1,r2,r3,r4):=h
 clear h
 have HC4:=aM H
 clear H
 go_enter Try.func37,Try.ntmps37
 go_upto_region 1 with(first|((with_reducible refine gD 6 rfl ?_);(try (refine gate_guard (by rfl) ?_;dsimp only));refine bX 6 32 #[.slice none 0 0,.slice none 0 0,.slice none 0 0] ?_;intro zo hg w5 hbox hb;have zc:=aM (hbox);have GW551:=gE (w:=w) hg (qB HB);have zm:=GW551;replace HB:=bS (qB HB) hb;clear hb hbox hg))
 (try simp only[Act.put,sP])
 go_cut [22] (fun v22 wc=>∃ (kq:Nat) (y1:Bool),v22=.bool y1∧Aside0 (fbh.j0 kq l0 l1 a2 y1=some (r1,r2,r3,r4))∧Aside0 (kq≤k)∧Aside0 (wc.heap[zo]?=some (.cells #[(.slice none 0 0),(.slice none 0 0),(.slice none 0 0)] 32 (0,0)))∧Aside0 (Below w.heap.size w wc))
 case first =>
  have H:=HC4.out
  clear HC4
  by_cases c6:a2<0
  ·rw[ip c6] at H
   have zaj:=dT c6
   clear c6
   (first|rw[zaj]|(simp only[i64_w,i32_w];rw[zaj])|skip)
   have H':=aM H
   clear H
   go_wp2
   go_meet
   case rel=>exact⟨_,(true),(pF),H',⟨pO⟩,⟨pK zc.out⟩,⟨qB1 HB zm⟩⟩
  rw[iN c6] at H
  have zaj:=dF c6
  clear c6
  (first|rw[zaj]|(simp only[i64_w,i32_w];rw[zaj])|skip)
  have H':=aM H
  clear H
  go_wp2
  go_meet
  case rel=>exact⟨_,(decide (a2 ≥ (l0.length:Int))),(pF),H',⟨pO⟩,⟨pK zc.out⟩,⟨qB1 HB zm⟩⟩
 clear HC4
 try clear c1
 obtain⟨kq,y1,rfl,HA,HJ3,zc,HB⟩:=hcut
 cases kq with
 | zero=>exact absurd HA.out (by simp[fbh.j0])
 | succ kj3=>?_
 have H:=HA.out
 clear HA
 simp only[fbh.j0] at H
 by_cases c7:y1=true
 ·subst c7
  rw[ip rfl] at H
  replace H:=oi4 H
  obtain⟨rfl,rfl,rfl,rfl⟩:=H
  have hcz8:=blk3 zc.out
  go_wp2
  refine bodyPost_ret (results_ct rfl _ _ zo 32 #[.slice none 0 0,.slice none 0 0,.slice none 0 0] (0,0) _ rfl (by exact P3 zc) Try.underlying32 rfl (by kernel_rfl)) rfl ?_
  exact⟨_,_,_,pE,pN,pN,pN,qB1 HB zm⟩
 replace c7:=Bool.eq_false_iff.mpr c7
 subst c7
 rw[iN fT] at H
 by_cases c9:(l0.length:Int)=(l1.length:Int)
 rotate_left
 ·rw[iN c9] at H
  have za5:=bF c9
  have za6:=nT c9
  have za7:(l0.length==l1.length)=false:=by first|simpa using c9|(simp at c9 ⊢;omega)
  replace H:=oi4 H
  obtain⟨rfl,rfl,rfl,rfl⟩:=H
  have hcz93:=blk3 zc.out
  go_wp2
  refine bodyPost_ret (results_ct rfl _ _ zo 32 #[.slice none 0 0,.slice none 0 0,.slice none 0 0] (0,0) _ rfl (by exact P3 zc) Try.underlying32 rfl (by kernel_rfl)) rfl ?_
  exact⟨_,_,_,pE,pN,pN,pN,qB1 HB zm⟩
 rw[ip c9] at H
 have za5:=bT c9
 have za6:=nF c9
 have za7:(l0.length==l1.length)=true:=by first|simpa using c9|(simp at c9 ⊢;omega)
 clear c9
 have H':=aM H
 clear H
 go_wp2
 go_loopg [32] kj3 (fun kq v32 w'=>∃ (yc:Int),v32=.int .i64 yc∧Aside0 (fbh.l0 kq l0 l1 a2 (l0.length:Int) yc=some (r1,r2,r3,r4))∧Aside0 (kq≤kj3)∧Aside0 (w'.heap[zo]?=some (.cells #[(.slice none 0 0),(.slice none 0 0),(.slice none 0 0)] 32 (0,0)))∧Aside0 (Below w.heap.size w w'))
 case atStart=>exact⟨(0),(pF),H',⟨Nat.le_refl _⟩,⟨pK zc.out⟩,⟨qB1 HB zm⟩⟩
 clear H'
 try clear c7
 try clear za5
 try clear za6
 try clear za7
 obtain⟨yc,rfl,HA,HK2,zc,HB⟩:=hrel
 cases gk with
 | zero=>exact absurd HA.out (by simp[fbh.l0])
 | succ k2=>?_
 have H:=HA.out
 clear HA
 simp only[fbh.l0] at H
 by_cases c10:yc<(l0.length:Int)
 ·rw[ip c10] at H
  have zaw:=dT c10
  clear c10
  by_cases c11:yc=a2
  ·rw[ip c11] at H
   have yad:=bT c11
   have yae:=nF c11
   clear c11
   have H':=aM H
   clear H
   try go_wp2
   replace zc:=aM (blk_drew zc.out)
   replace HB:=aM (below_drew1 HB.out)
   refine sT 14 [] (fun w'=>True) fbh.tab8 fbh.bits8 trivial (fun hHeld HT_ HW_=>?_)
   generalize wr.drew=w12 at zc HB hHeld ⊢
   refine pQ 0 35 14 1 HT_ ?_
   refine pQ 1 36 14 3 HT_ ?_
   refine pQ 2 37 14 7 HT_ ?_
   refine pQ 3 38 14 15 HT_ ?_
   refine pX 4 39 14 31 HT_ ?_
   refine pX 5 40 14 63 HT_ ?_
   refine pX 6 41 14 127 HT_ ?_
   refine pX 7 42 14 255 HT_ ?_
   refine pX 8 43 14 511 HT_ ?_
   refine pX 9 44 14 1023 HT_ ?_
   refine pX 10 45 14 2047 HT_ ?_
   refine pX 11 46 14 4095 HT_ ?_
   refine pX 12 47 14 8191 HT_ ?_
   refine pQ 13 48 14 16383 HT_ ?_
   refine dN HT_ ?_
   try go_wp2
   go_roundg k2
   case measure=>have:=HJ3.out;have:=HK2.out;omega
   case rel=>exact⟨(wrap64 (yc+1)),(pF),H',⟨pO2 HJ3 HK2⟩,⟨pK zc.out⟩,⟨qB1 HB zm⟩⟩
  rw[iN c11] at H
  have yad:=bF c11
  have yae:=nT c11
  by_cases c13:0≤yc
  rotate_left
  ·rw[iN c13] at H
   cases H
  rw[ip c13] at H
  have c13b0:=dT c13
  clear c13
  by_cases c14:yc<(l0.length:Int)
  rotate_left
  ·rw[iN c14] at H
   cases H
  rw[ip c14] at H
  have c14b0:=dT c14
  clear c14
  by_cases c15:yc<(l1.length:Int)
  rotate_left
  ·rw[iN c15] at H
   cases H
  rw[ip c15] at H
  have c15b0:=dT c15
  clear c15
  by_cases c16:(rd l0 yc)=(rd l1 yc)
  rotate_left
  ·rw[iN c16] at H
   have yaf:=bF c16
   have yag:=nT c16
   replace H:=oi4 H
   obtain⟨rfl,rfl,rfl,rfl⟩:=H
   try go_wp2
   replace zc:=aM (blk_drew zc.out)
   replace HB:=aM (below_drew1 HB.out)
   obtain⟨y3,⟨⟩,yk,yau,yav⟩:=zI HR0.out yc
   have ys:=zW HB yk
   obtain⟨y4,⟨⟩,yl,yaw,yax⟩:=zI HR1.out yc
   have yt:=zW HB yl
   refine sT 14 [] (fun w'=>w'.cell? (y3.add (yc).toNat)=some (.int .i64 (rd l0 yc))∧w'.cell? (y4.add (yc).toNat)=some (.int .i64 (rd l1 yc))) fbh.tab8 fbh.bits8 ⟨(zW HB yk),(zW HB yl)⟩ (fun hHeld HT_ HW_=>?_)
   generalize wr.drew=w18 at zc HB ys yt hHeld ⊢
   refine pQ 0 35 14 1 HT_ ?_
   refine pQ 1 36 14 3 HT_ ?_
   refine pQ 2 37 14 7 HT_ ?_
   refine pQ 3 38 14 15 HT_ ?_
   refine pQ 4 39 14 31 HT_ ?_
   refine pQ 5 40 14 63 HT_ ?_
   refine pQ 6 41 14 127 HT_ ?_
   refine pQ 8 43 14 383 HT_ ?_
   refine pQ 9 44 14 895 HT_ ?_
   refine pQ 10 45 14 1919 HT_ ?_
   refine pU2 7 42 14 2047 HT_ HW_ hHeld ?_
   refine pU2 11 46 14 4095 HT_ HW_ hHeld ?_
   refine pQ 12 47 14 8191 HT_ ?_
   refine pQ 13 48 14 16383 HT_ ?_
   refine dN HT_ ?_
   have hcz19:=blk3 zc.out
   try go_wp2
   refine bodyPost_ret (results_ct rfl _ _ zo 32 #[.slice none 0 0,.slice none 0 0,.slice none 0 0] (0,0) _ rfl (by exact P3 zc) Try.underlying32 rfl (by kernel_rfl)) rfl ?_
   exact⟨_,_,_,pE,pN,pN,pN,qB1 HB zm⟩
  rw[ip c16] at H
  have yaf:=bT c16
  have yag:=nF c16
  clear c16
  have H':=aM H
  clear H
  try go_wp2
  replace zc:=aM (blk_drew zc.out)
  replace HB:=aM (below_drew1 HB.out)
  obtain⟨y3,⟨⟩,yk,yau,yav⟩:=zI HR0.out yc
  have ys:=zW HB yk
  obtain⟨y4,⟨⟩,yl,yaw,yax⟩:=zI HR1.out yc
  have yt:=zW HB yl
  refine sT 14 [] (fun w'=>w'.cell? (y3.add (yc).toNat)=some (.int .i64 (rd l0 yc))∧w'.cell? (y4.add (yc).toNat)=some (.int .i64 (rd l1 yc))) fbh.tab8 fbh.bits8 ⟨(zW HB yk),(zW HB yl)⟩ (fun hHeld HT_ HW_=>?_)
  generalize wr.drew=w17 at zc HB ys yt hHeld ⊢
  refine pQ 0 35 14 1 HT_ ?_
  refine pQ 1 36 14 3 HT_ ?_
  refine pQ 2 37 14 7 HT_ ?_
  refine pQ 3 38 14 15 HT_ ?_
  refine pQ 4 39 14 31 HT_ ?_
  refine pQ 5 40 14 63 HT_ ?_
  refine pQ 6 41 14 127 HT_ ?_
  refine pQ 8 43 14 383 HT_ ?_
  refine pQ 9 44 14 895 HT_ ?_
  refine pQ 10 45 14 1919 HT_ ?_
  refine pU2 7 42 14 2047 HT_ HW_ hHeld ?_
  refine pU2 11 46 14 4095 HT_ HW_ hHeld ?_
  refine pQ 12 47 14 8191 HT_ ?_
  refine pQ 13 48 14 16383 HT_ ?_
  refine dN HT_ ?_
  try go_wp2
  go_roundg k2
  case measure=>have:=HJ3.out;have:=HK2.out;omega
  case rel=>exact⟨(wrap64 (yc+1)),(pF),H',⟨pO2 HJ3 HK2⟩,⟨pK zc.out⟩,⟨qB1 HB zm⟩⟩
 rw[iN c10] at H
 have zaw:=dF c10
 clear c10
 by_cases c20:0≤a2
 rotate_left
 ·rw[iN c20] at H
  cases H
 rw[ip c20] at H
 have yah:=dT c20
 clear c20
 by_cases c21:a2<(l0.length:Int)
 rotate_left
 ·rw[iN c21] at H
  cases H
 rw[ip c21] at H
 have yai:=dT c21
 clear c21
 by_cases c22:a2<(l1.length:Int)
 rotate_left
 ·rw[iN c22] at H
  cases H
 rw[ip c22] at H
 have yaj:=dT c22
 clear c22
 replace H:=oB H
 obtain⟨⟨zaa,zae⟩,za8,H⟩:=H
 try dsimp only at H
 have A23:=aM za8
 clear za8
 by_cases c24:zae=0
 rotate_left
 ·rw[iN c24] at H
  have zax:=bF c24
  have zay:=nT c24
  replace H:=oi4 H
  obtain⟨rfl,rfl,rfl,rfl⟩:=H
  try go_wp2
  replace zc:=aM (blk_drew zc.out)
  replace HB:=aM (below_drew1 HB.out)
  obtain⟨yj,⟨⟩,yg,yak,yal⟩:=zI HR0.out a2
  have yo:=zW HB yg
  obtain⟨y2,⟨⟩,yh,yam,yan⟩:=zI HR1.out a2
  have yp:=zW HB yh
  refine sT 17 [] (fun w'=>w'.cell? (yj.add (a2).toNat)=some (.int .i64 (rd l0 a2))∧w'.cell? (y2.add (a2).toNat)=some (.int .i64 (rd l1 a2))) fbh.tab11 fbh.bits11 ⟨(zW HB yg),(zW HB yh)⟩ (fun hHeld HT_ HW_=>?_)
  generalize wr.drew=w90 at zc HB yo yp hHeld ⊢
  refine pQ 0 52 17 1 HT_ ?_
  refine pQ 1 53 17 3 HT_ ?_
  refine pQ 2 54 17 7 HT_ ?_
  refine pQ 3 55 17 15 HT_ ?_
  refine pQ 4 56 17 31 HT_ ?_
  refine pQ 6 58 17 95 HT_ ?_
  refine pQ 7 59 17 223 HT_ ?_
  refine pQ 8 60 17 479 HT_ ?_
  refine pU2 5 57 17 511 HT_ HW_ hHeld ?_
  refine pU2 9 61 17 1023 HT_ HW_ hHeld ?_
  refine pQ 10 62 17 2047 HT_ ?_
  refine oN 11 63 17 4095 HT_ (fun K hK=>?_)
  refine gS Try.func63 #[.slice (some yj) l0.length c0,.int .i64 a2,.int .i64 (wrap64 ((rd l0 a2)+(rd l1 a2)))] ?_
  with_reducible refine(fam.calls k2 _ _ l0 a2 (wrap64 ((rd l0 a2)+(rd l1 a2))) zaa zae _ ?s1 ?s2 A23.out).mono ?_
  (case s1=>exact sC HR0 HB)
  (case s2=>exact HC0.out)
  rintro e w91 ⟨v558,rfl,ho0,hb⟩
  refine⟨_,rfl,?_⟩
  have z2:=aM (Kd.R_lower ho0 (below_size (qB1 HB zm)))
  replace zc:=bK zc hb
  replace HB:=bS (qB1 HB zm) hb
  refine hK.out _ _ ⟨(zW HB yg),(zW HB yh)⟩ (fun hHeld=>?_)
  clear hK K
  refine nM 63 ?_
  refine pQ 12 51 17 8191 HT_ ?_
  refine pQ 13 64 17 16383 HT_ ?_
  refine pQ 14 65 17 32767 HT_ ?_
  refine pQ 15 9 17 65535 HT_ ?_
  refine pQ 16 10 17 131071 HT_ ?_
  refine dN HT_ ?_
  have hcz92:=blk3 zc.out
  try go_wp2
  refine bodyPost_ret (results_ct rfl _ _ zo 32 #[.slice none 0 0,.slice none 0 0,.slice none 0 0] (0,0) _ rfl (by exact P3 zc) Try.underlying32 rfl (by kernel_rfl)) rfl ?_
  exact⟨_,_,_,pE,pN,pN,pN,qB1 HB zm⟩
 rw[ip c24] at H
 have zax:=bT c24
 have zay:=nF c24
 clear c24
 replace H:=oB H
 obtain⟨zn,za9,H⟩:=H
 try dsimp only at H
 have A25:=aM za9
 clear za9
 have H':=aM H
 clear H
 try go_wp2
 replace zc:=aM (blk_drew zc.out)
 replace HB:=aM (below_drew1 HB.out)
 obtain⟨yj,⟨⟩,yg,yak,yal⟩:=zI HR0.out a2
 have yo:=zW HB yg
 obtain⟨y2,⟨⟩,yh,yam,yan⟩:=zI HR1.out a2
 have yp:=zW HB yh
 refine sT 17 [] (fun w'=>w'.cell? (yj.add (a2).toNat)=some (.int .i64 (rd l0 a2))∧w'.cell? (y2.add (a2).toNat)=some (.int .i64 (rd l1 a2))) fbh.tab11 fbh.bits11 ⟨(zW HB yg),(zW HB yh)⟩ (fun hHeld HT_ HW_=>?_)
 generalize wr.drew=w26 at zc HB yo yp hHeld ⊢
 refine pQ 0 52 17 1 HT_ ?_
 refine pQ 1 53 17 3 HT_ ?_
 refine pQ 2 54 17 7 HT_ ?_
 refine pQ 3 55 17 15 HT_ ?_
 refine pQ 4 56 17 31 HT_ ?_
 refine pQ 6 58 17 95 HT_ ?_
 refine pQ 7 59 17 223 HT_ ?_
 refine pQ 8 60 17 479 HT_ ?_
 refine pU2 5 57 17 511 HT_ HW_ hHeld ?_
 refine pU2 9 61 17 1023 HT_ HW_ hHeld ?_
 refine pQ 10 62 17 2047 HT_ ?_
 refine oN 11 63 17 4095 HT_ (fun K hK=>?_)
 refine gS Try.func63 #[.slice (some yj) l0.length c0,.int .i64 a2,.int .i64 (wrap64 ((rd l0 a2)+(rd l1 a2)))] ?_
 with_reducible refine(fam.calls k2 _ _ l0 a2 (wrap64 ((rd l0 a2)+(rd l1 a2))) zaa zae _ ?s1 ?s2 A23.out).mono ?_
 (case s1=>exact sC HR0 HB)
 (case s2=>exact HC0.out)
 rintro e w27 ⟨v558,rfl,ho0,hb⟩
 refine⟨_,rfl,?_⟩
 have z2:=aM (Kd.R_lower ho0 (below_size (qB1 HB zm)))
 replace zc:=bK zc hb
 replace HB:=bS (qB1 HB zm) hb
 refine hK.out _ _ ⟨(zW HB yg),(zW HB yh)⟩ (fun hHeld=>?_)
 clear hK K
 refine nM 63 ?_
 refine pQ 12 51 17 8191 HT_ ?_
 refine pQ 13 64 17 16383 HT_ ?_
 refine pQ 14 65 17 32767 HT_ ?_
 refine pQ 15 9 17 65535 HT_ ?_
 refine pQ 16 10 17 131071 HT_ ?_
 refine dN HT_ ?_
 obtain⟨zak,zai,yay⟩:=Kd.R_slice z2.out
 subst yay
 try go_wp2_with (first|((with_reducible refine gD 11 rfl ?_);(try (refine gate_guard (by rfl) ?_;dsimp only));refine bX 11 32 #[.slice none 0 0,.slice none 0 0,.slice none 0 0] ?_;intro ze hg w29 hbox hb;replace z2:=bR z2 hb;have zd:=aM (hbox);have GW560:=gE (w:=w) hg (qB1 HB zm);have zq:=GW560;replace HB:=bS (qB1 HB zm) hb;have zp:=nL hg zc;have zx:=nG hg zc;replace zc:=bK zc hb;clear hb hbox hg;have hnb30:=zx.out;have hnc30:=zp.out;have yao:=blk3 zd.out)|((with_reducible refine gC 48 rfl ?_);refine gL 73 Try.func48 #[.slice zak zaa.length zai] ?_;(with_reducible refine(fan.calls k2 _ _ zaa zn _ ?s1 ?s2 A25.out).mono ?_);(case s1=>refine(Kd.R_reads' (e:=3) (base:=w.heap.size) (ok:=fun k_=>True) (n:=zaa.length) (c:=zai) ?_).2.2;exact(by(with_reducible repeat(first|apply rA|apply rN|apply rD));exact(F3 z2 zd (fun _ h_=>h_.1))));(case s2=>exact sL z2);rintro e w32 ⟨v562,rfl,ho0,hb⟩;refine⟨_,rfl,?_⟩;have zaz:=aM (Kd.N_lower (Kd.N_mono (ok':=fun k_=>some k_≠(.slice zak zaa.length zai:Value).ownBlock∧k_≠zo∧k_≠ze) ho0 (fun k_ hk_=>⟨(Kd.fresh' (Kd.R_lt (by(with_reducible repeat(first|apply rA|apply rN|apply rD));exact(F3 z2 zd (fun _ h_=>h_.1)))) k_ hk_),(Kd.freshB (g:=zo) (o:=.cells #[.slice none 0 0,.slice none 0 0,.slice none 0 0] 32 (0,0)) (by refine B3 zp ?_;exact zc.out) k_ hk_),(Kd.freshB (g:=ze) (o:=.cells #[.slice zak zaa.length zai,.slice none 0 0,.slice none 0 0] 32 (0,0)) (by exact P3 zd) k_ hk_)⟩)) (below_size (qB2 HB zm zq)));replace z2:=aM (Kd.R_below (by(with_reducible repeat(first|apply rA|apply rN|apply rD));exact(F3 z2 zd (fun _ h_=>h_.1))) hb);replace zc:=aM (blk_below (g:=zo) (o:=.cells #[.slice none 0 0,.slice none 0 0,.slice none 0 0] 32 (0,0)) (by refine B3 zp ?_;exact zc.out) hb);replace zd:=aM (blk_below (g:=ze) (o:=.cells #[.slice zak zaa.length zai,.slice none 0 0,.slice none 0 0] 32 (0,0)) (by exact P3 zd) hb);replace HB:=bS (qB2 HB zm zq) hb;obtain⟨yaz,z8,ya0⟩:=Kd.N_slice zaz.out;subst ya0))
 go_loopg [76] k2 (fun kq v76 w'=>∃ (ya:Int) (zl:List Int) (zk:List Int) (zg:List Int) (u561000:Value) (u561001:Value) (u561002:Value),v76=.int .i64 ya∧Aside0 (fbh.l1 kq l0 l1 a2 zn (zn.length:Int) ya zl zk zg=some (r1,r2,r3,r4))∧Aside0 (kq≤k2)∧Aside0 (Kd.N (Kd.slice 3 (Kd.int .i64)) 22 w' w.heap.size (fun k_=>some k_≠(u561000:Value).ownBlock∧some k_≠(u561001:Value).ownBlock∧some k_≠(u561002:Value).ownBlock∧k_≠zo∧k_≠ze) (.slice yaz zn.length z8) zn)∧Aside0 (Kd.R (Kd.int .i64) 3 w' w.heap.size (fun k_=>some k_≠(u561001:Value).ownBlock∧some k_≠(u561002:Value).ownBlock) u561000 zl)∧Aside0 (Kd.R (Kd.int .i64) 3 w' w.heap.size (fun k_=>some k_≠(u561000:Value).ownBlock∧some k_≠(u561002:Value).ownBlock) u561001 zk)∧Aside0 (Kd.R (Kd.int .i64) 3 w' w.heap.size (fun k_=>some k_≠(u561000:Value).ownBlock∧some k_≠(u561001:Value).ownBlock) u561002 zg)∧Aside0 (w'.heap[zo]?=some (.cells #[(.slice none 0 0),(.slice none 0 0),(.slice none 0 0)] 32 (0,0)))∧Aside0 (w'.heap[ze]?=some (.cells #[u561000,u561001,u561002] 32 (0,0)))∧Aside0 (Below w.heap.size w w'))
 case atStart=>exact⟨(0),(zaa),(([]:List Int)),(([]:List Int)),(.slice zak zaa.length zai),(.slice none 0 0),(.slice none 0 0),(pF),H',⟨Nat.le_refl _⟩,⟨by(with_reducible repeat(first|apply Kd.N_alloc|apply Kd.N_drewN|apply Kd.N_drew));exact Kd.N_mono zaz.out (fun _ hk=>⟨hk.1,⟨(by simp[Value.ownBlock]),⟨(by simp[Value.ownBlock]),⟨hk.2.1,hk.2.2⟩⟩⟩⟩)⟩,⟨by(with_reducible repeat(first|apply rA|apply rN|apply rD));exact Kd.R_mono z2.out (fun _ hk=>⟨(by simp[Value.ownBlock]),(by simp[Value.ownBlock])⟩)⟩,⟨pN⟩,⟨pN⟩,⟨pK zc.out⟩,⟨pK zd.out⟩,⟨qB2 HB zm zq⟩⟩
 clear H'
 try clear zaw
 try clear yah
 try clear yai
 try clear yaj
 try clear zax
 try clear zay
 try clear yao
 try clear yo
 try clear yp
 try clear yak
 try clear yam
 try clear yal
 try clear yan
 obtain⟨ya,zl,zk,zg,u561000,u561001,u561002,rfl,HA,HK3,zj,za,zf,zb,zc,zd,HB⟩:=hrel
 cases gk with
 | zero=>exact absurd HA.out (by simp[fbh.l1])
 | succ k3=>?_
 have H:=HA.out
 clear HA
 simp only[fbh.l1] at H
 by_cases c34:ya<(zn.length:Int)
 rotate_left
 ·rw[iN c34] at H
  have yap:=dF c34
  clear c34
  replace H:=oi4 H
  obtain⟨rfl,rfl,rfl,rfl⟩:=H
  have hnb84:=zx.out
  have hnc84:=zp.out
  have hcz85:=blk3 zd.out
  obtain⟨ya1,ya2,ya3⟩:=Kd.R_slice za.out
  subst ya3
  have hcz87:=blk3 zc.out
  obtain⟨ya4,ya5,ya6⟩:=Kd.R_slice zf.out
  subst ya6
  obtain⟨ya7,ya8,ya9⟩:=Kd.R_slice zb.out
  subst ya9
  go_wp2
  refine bodyPost_ret (results_ct rfl _ _ zo 32 #[.slice ya1 zl.length ya2,.slice ya4 zk.length ya5,.slice ya7 zg.length ya8] (0,0) _ rfl (by exact P3 zc) Try.underlying32 rfl (by kernel_rfl)) rfl ?_
  exact⟨_,_,_,pE,by(with_reducible repeat(first|apply rA|apply rN|apply rD));exact F3 za zc (fun _ hk=>⟨hk.1.1,hk.1.2⟩),by(with_reducible repeat(first|apply rA|apply rN|apply rD));exact F3 zf zc (fun _ hk=>⟨hk.1.1,hk.1.2⟩),by(with_reducible repeat(first|apply rA|apply rN|apply rD));exact F3 zb zc (fun _ hk=>⟨hk.1.1,hk.1.2⟩),qB2 HB zm zq⟩
 rw[ip c34] at H
 have yap:=dT c34
 clear c34
 obtain⟨zac,zal⟩:∃ y_:List Int,y_=(([]:List Int)):=⟨_,rfl⟩
 replace H:(if 0≤ya then(if ya<(zn.length:Int)then(if zac.length+(rd_L1 zn ya).length<17592186044416 then((some (zac++(rd_L1 zn ya):List Int)).bind fun zh=>(if 0≤a2 then(if a2<(zh.length:Int)then(if a2<(l0.length:Int)then(if(rd zh a2)<(rd l0 a2)then(if zk.length<17592186044416 then((fao.f k3 l0 zh).bind fun z9=>(if zg.length<17592186044416 then(fbh.l1 k3 l0 l1 a2 zn (zn.length:Int) (wrap64 (ya+1)) zl (zk++[0]) (zg++[z9]))else(none)))else(none))else(if zk.length<17592186044416 then((fao.f k3 l1 (zh.set (a2:Int).toNat (wrap64 ((rd zh a2)-(rd l0 a2))))).bind fun z5=>(if zg.length<17592186044416 then(fbh.l1 k3 l0 l1 a2 zn (zn.length:Int) (wrap64 (ya+1)) zl (zk++[1]) (zg++[z5]))else(none)))else(none)))else(none))else(none))else(none)))else(none))else(none))else(none))=some (r1,r2,r3,r4):=pH zal H
 have zah:=aM zal
 clear zal
 by_cases c35:0≤ya
 rotate_left
 ·rw[iN c35] at H
  cases H
 rw[ip c35] at H
 have c35b0:=dT c35
 clear c35
 by_cases c36:ya<(zn.length:Int)
 rotate_left
 ·rw[iN c36] at H
  cases H
 rw[ip c36] at H
 have c36b0:=dT c36
 clear c36
 by_cases c37:zac.length+(rd_L1 zn ya).length<17592186044416
 rotate_left
 ·rw[iN c37] at H
  cases H
 rw[ip c37] at H
 have za0:=aM c37
 clear c37
 obtain⟨zh,zam⟩:∃ y_:List Int,y_=(zac++(rd_L1 zn ya)):=⟨_,rfl⟩
 replace H:(if 0≤a2 then(if a2<(zh.length:Int)then(if a2<(l0.length:Int)then(if(rd zh a2)<(rd l0 a2)then(if zk.length<17592186044416 then((fao.f k3 l0 zh).bind fun z9=>(if zg.length<17592186044416 then(fbh.l1 k3 l0 l1 a2 zn (zn.length:Int) (wrap64 (ya+1)) zl (zk++[0]) (zg++[z9]))else(none)))else(none))else(if zk.length<17592186044416 then((fao.f k3 l1 (zh.set (a2:Int).toNat (wrap64 ((rd zh a2)-(rd l0 a2))))).bind fun z5=>(if zg.length<17592186044416 then(fbh.l1 k3 l0 l1 a2 zn (zn.length:Int) (wrap64 (ya+1)) zl (zk++[1]) (zg++[z5]))else(none)))else(none)))else(none))else(none))else(none))=some (r1,r2,r3,r4):=pH zam H
 have za1:=aM zam
 clear zam
 by_cases c38:0≤a2
 rotate_left
 ·rw[iN c38] at H
  cases H
 rw[ip c38] at H
 have c38b0:=dT c38
 clear c38
 by_cases c39:a2<(zh.length:Int)
 rotate_left
 ·rw[iN c39] at H
  cases H
 rw[ip c39] at H
 have c39b0:=dT c39
 clear c39
 by_cases c40:a2<(l0.length:Int)
 rotate_left
 ·rw[iN c40] at H
  cases H
 rw[ip c40] at H
 have c40b0:=dT c40
 clear c40
 by_cases c41:(rd zh a2)<(rd l0 a2)
 ·rw[ip c41] at H
  have yaq:=dT c41
  clear c41
  by_cases c42:zk.length<17592186044416
  rotate_left
  ·rw[iN c42] at H
   cases H
  rw[ip c42] at H
  have LMc42:=aM c42
  clear c42
  obtain⟨zr,zan⟩:∃ y_:List Int,y_=(zk++[0]):=⟨_,rfl⟩
  replace H:((fao.f k3 l0 zh).bind fun z9=>(if zg.length<17592186044416 then(fbh.l1 k3 l0 l1 a2 zn (zn.length:Int) (wrap64 (ya+1)) zl zr (zg++[z9]))else(none)))=some (r1,r2,r3,r4):=pH zan H
  have Ny573:=aM zan
  clear zan
  replace H:=oB H
  obtain⟨z9,zba,H⟩:=H
  try dsimp only at H
  have A43:=aM zba
  clear zba
  by_cases c44:zg.length<17592186044416
  rotate_left
  ·rw[iN c44] at H
   cases H
  rw[ip c44] at H
  have LMc44:=aM c44
  clear c44
  obtain⟨zaf,zao⟩:∃ y_:List Int,y_=(zg++[z9]):=⟨_,rfl⟩
  replace H:(fbh.l1 k3 l0 l1 a2 zn (zn.length:Int) (wrap64 (ya+1)) zl zr zaf)=some (r1,r2,r3,r4):=pH zao H
  have Ny577:=aM zao
  clear zao
  have H':=aM H
  clear H
  try go_wp2_with (first|((with_reducible refine gD 79 rfl ?_);(try (refine gate_guard (by rfl) ?_;dsimp only));refine Kd.R_lit (Kd.int .i64) _ 3 ?hg (N:=79) ?hd (xs:=([]:List Int)) (inner:=[]) (ok:=fun _=>True) (okp:=fun _=>True) ?hr ?hp (fun _ hk=>hk) trivial (Below.refl _ _) (Nat.le_refl _) (by simp) ?_;(case hd=>rfl);(case hg=>rfl);(case hr=>first|(go_simp;done)|(go_simp;rfl));(case hp=>exact(Reps.none _ _));intro za4 w45 ho46 hb hg_ hnew_;clear hg_ hnew_;(first|rw[← zah.out] at ho46|(simp only[Int.reduceToNat] at ho46;rw[← zah.out] at ho46));replace zj:=aM (Kd.N_elder' (by(with_reducible repeat(first|apply Kd.N_alloc|apply Kd.N_drewN|apply Kd.N_drew));exact zj.out) (Kd.R_base ho46) hb);have z6:=aM (Kd.R_lower (Kd.R_new' (Kd.R_new' (Kd.R_new' ho46 (Kd.R_lt (pR za.out))) (Kd.R_lt (pR zf.out))) (Kd.R_lt (pR zb.out))) (below_size (qB2 HB zm zq)));replace za:=eR za ho46 hb;replace zf:=eR zf ho46 hb;replace zb:=eR zb ho46 hb;replace zc:=bK zc hb;replace zd:=bK zd hb;replace HB:=bS (qB2 HB zm zq) hb;clear hb ho46;have y5:0≤(ya:Int):=oD;have y6:ya<(zn.length:Int):=oD;obtain⟨yf,yu,yv,yaa,yw,ym,yn⟩:=at_L1 (Kd.N_reads' zj.out).2.2 ya y5 y6;cases yaa;obtain⟨yar,yz,y0,yr⟩:=Kd.N_get zj.out [] ya y5 (by first|exact y6|exact of_decide_eq_true pD|(have e_:=(Kd.N_reads' zj.out).1;omega));obtain⟨ua567_0,uc567_0,rfl,ul567_0,ge567_0⟩:=Kd.FK_slice_open y0;have hv567_0:=yr 0 _ rfl;rw[Nat.add_zero,show ((Kd.slice 3 (Kd.int .i64))).sz=1 from rfl,Nat.mul_one] at hv567_0;replace hv567_0:=Option.some.inj (hv567_0.symm.trans yw);injection hv567_0 with hva_ hvn_ hvc_;rw[hva_] at ge567_0;rw[hvc_] at ul567_0;have HL567_0:=aM (show Kd.V (Kd.int .i64) 3 _ w.heap.size _ _ (rd_L1 zn ya) from Kd.V_mk ul567_0 ge567_0);clear hva_ hvn_ hvc_ ge567_0 ul567_0;clear yr yz;have z7:=aM yn;have y8:=aM ym;clear yn ym)|((with_reducible refine gate_builtin (b:=.append) (xs:=#[.tmp 79,.tmp 83]) rfl ?_);(try (refine gate_guard (by rfl) ?_;dsimp only));at_builtin;refine Kd.R_append_rows (Kd.int .i64) (w0:=w) w.heap.size rfl (.tmp 79) (.tmp 83) 22 3 (.int .i64 0) 8 rfl Try.underlying22 info3 rfl (by decide) (by omega) za4 zac (rd_L1 zn ya) _ _ _ (fun k_=>some k_≠(u561000:Value).ownBlock∧some k_≠(u561001:Value).ownBlock∧some k_≠(u561002:Value).ownBlock) (fun _=>False) rfl rfl ?aO ?aR (fun _ _ h=>h) (fun _ h=>h.elim) ?aF ?aB ?aS ?aL ?_;(case aR=>repeat(first|exact(by repeat(first|(with_reducible exact z7.out)|(with_reducible refine Kd.C_alloc ?_ _)|(with_reducible refine Kd.C_drewN ?_ _)|(with_reducible refine Kd.C_drew ?_)|exact z7.out))|(with_reducible refine Kd.C_alloc ?_ _)|(with_reducible refine Kd.C_drewN ?_ _)|(with_reducible refine Kd.C_drew ?_)));(case aB=>exact(qB2 HB zm zq));(case aF=>exact(fun k_ hk=>⟨Kd.fresh' (Kd.R_lt (pR za.out)) k_ hk,Kd.fresh' (Kd.R_lt (pR zf.out)) k_ hk,Kd.fresh' (Kd.R_lt (pR zb.out)) k_ hk⟩));(case aO=>exact(by(with_reducible repeat(first|apply rA|apply rN|apply rD));exact Kd.R_mono z6.out (fun _ hk=>⟨hk.1.1.2,⟨hk.1.2,hk.2⟩⟩)));(case aS=>exact(below_size (qB2 HB zm zq)));(case aL=>have:=za0.out;omega);intro v569 w47 ho hb hg hat;rw[← za1.out] at ho;replace zj:=aM (Kd.N_afterv (ok:=(fun k_=>some k_≠(u561000:Value).ownBlock∧some k_≠(u561001:Value).ownBlock∧some k_≠(u561002:Value).ownBlock∧k_≠zo∧k_≠ze)) (by(with_reducible repeat(first|apply Kd.N_alloc|apply Kd.N_drewN|apply Kd.N_drew));exact zj.out) hg hat);replace za:=aM (Kd.R_after (ok:=(fun k_=>some k_≠(u561001:Value).ownBlock∧some k_≠(u561002:Value).ownBlock)) (pR za.out) hg hat);replace zf:=aM (Kd.R_after (ok:=(fun k_=>some k_≠(u561000:Value).ownBlock∧some k_≠(u561002:Value).ownBlock)) (pR zf.out) hg hat);replace zb:=aM (Kd.R_after (ok:=(fun k_=>some k_≠(u561000:Value).ownBlock∧some k_≠(u561001:Value).ownBlock)) (pR zb.out) hg hat);replace zc:=aM (blk_grown (g:=zo) (pK zc.out) hg (Kd.R_ne z6.out zc.out (by decide)));replace zd:=aM (blk_grown (g:=ze) (pK zd.out) hg (Kd.R_ne z6.out zd.out (by decide)));replace HL567_0:=aM (Kd.V_afterv (ok:=(fun k_=>some k_≠(.slice (some yf) zn.length z8:Value).ownBlock∧some k_≠(u561000:Value).ownBlock∧some k_≠(u561001:Value).ownBlock∧some k_≠(u561002:Value).ownBlock∧k_≠zo∧k_≠ze)) (by(with_reducible repeat(first|apply Kd.V_alloc|apply Kd.V_drewN|apply Kd.V_drew));exact Kd.V_mono HL567_0.out (fun _ hk=>⟨⟨hk.2,⟨hk.1.1.1,⟨hk.1.1.2.1,⟨hk.1.1.2.2.1,⟨hk.1.1.2.2.2.1,hk.1.1.2.2.2.2⟩⟩⟩⟩⟩,hk.1.2⟩)) hg hat);replace HB:=aM (hb);have zi:=aM (ho);clear z6;clear ho hb hg hat))
  replace zj:=aM (Kd.N_drew zj.out)
  replace za:=aM (Kd.R_drew za.out)
  replace zf:=aM (Kd.R_drew zf.out)
  replace zb:=aM (Kd.R_drew zb.out)
  replace HL567_0:=aM (Kd.V_drew HL567_0.out)
  replace zi:=aM (Kd.R_drew zi.out)
  replace zc:=aM (blk_drew zc.out)
  replace zd:=aM (blk_drew zd.out)
  replace HB:=aM (below_drew1 HB.out)
  obtain⟨Ao49,z1,zbb⟩:=Kd.R_slice zi.out
  (first|subst zbb|(injection zbb with f1_ f2_ f3_;have f4_:=f1_.symm;have f5_:=f3_.symm;clear f1_ f2_ f3_;subst f4_;subst f5_))
  obtain⟨yd,⟨⟩,yi,yba,ybb⟩:=zI (Kd.R_reads' zi.out).2.2 a2
  obtain⟨y7,yab,ye,ybc,ybd⟩:=zI HR0.out a2
  have yx:=ye
  obtain rfl:yj=y7:=(by injection yab)
  replace ye:=zW HB ye
  refine sT 9 [] (fun w'=>w'.cell? (yd.add (a2).toNat)=some (.int .i64 (rd zh a2))∧w'.cell? (yj.add (a2).toNat)=some (.int .i64 (rd l0 a2))) fbh.tab20 fbh.bits20 ⟨yi,(zW HB yx)⟩ (fun hHeld HT_ HW_=>?_)
  generalize w47.drew=w48 at zj za zf zb HL567_0 zi zc zd HB yi ye hHeld ⊢
  refine pQ 0 85 9 1 HT_ ?_
  refine pQ 1 86 9 3 HT_ ?_
  refine pQ 2 87 9 7 HT_ ?_
  refine pQ 4 89 9 23 HT_ ?_
  refine pQ 5 90 9 55 HT_ ?_
  refine pQ 6 91 9 119 HT_ ?_
  refine pU2 3 88 9 127 HT_ HW_ hHeld ?_
  refine pU2 7 92 9 255 HT_ HW_ hHeld ?_
  refine pQ 8 93 9 511 HT_ ?_
  refine dN HT_ ?_
  have hnb50:=zx.out
  have hnc50:=zp.out
  have hcz51:=blk3 zd.out
  try go_wp2_with (first|((with_reducible refine gate_builtin (b:=.append) (xs:=#[.tmp 95,.tmp 96]) rfl ?_);(try (refine gate_guard (by rfl) ?_;dsimp only));at_builtin;refine Kd.R_append (Kd.int .i64) (w0:=w) w.heap.size rfl (.tmp 95) (.tmp 96) 22 3 (.int .i64 0) 8 rfl Try.underlying22 info3 rfl (by decide) (by omega) u561001 zk 0 [.int .i64 0] (fun k_=>some k_≠(u561000:Value).ownBlock∧some k_≠(u561002:Value).ownBlock∧some k_≠(.slice (some yd) zh.length z1:Value).ownBlock) (fun _=>False) rfl rfl ?aP (fun _ hk=>hk.elim) ?aF ?aO ?aB ?aS ?aL ?_;(case aP=>exact rfl);(case aB=>exact(qB2 HB zm zq));(case aF=>exact(fun k_ hk=>⟨Kd.fresh' (Kd.R_lt (pR za.out)) k_ hk,Kd.fresh' (Kd.R_lt (pR zb.out)) k_ hk,Kd.fresh' (Kd.R_lt (pR zi.out)) k_ hk⟩));(case aO=>exact(by(with_reducible repeat(first|apply rA|apply rN|apply rD));exact Kd.R_mono zf.out (fun _ hk=>⟨hk.1.1,⟨hk.1.2,hk.2⟩⟩)));(case aS=>exact(below_size (qB2 HB zm zq)));(case aL=>have:=LMc42.out;omega);intro v574 w52 ho hb hg hat;rw[← Ny573.out] at ho;replace zj:=aM (Kd.N_afterv (ok:=(fun k_=>some k_≠(u561000:Value).ownBlock∧some k_≠(u561002:Value).ownBlock∧some k_≠(.slice (some yd) zh.length z1:Value).ownBlock∧k_≠zo∧k_≠ze)) (by(with_reducible repeat(first|apply Kd.N_alloc|apply Kd.N_drewN|apply Kd.N_drew));exact Kd.N_mono zj.out (fun _ hk=>⟨⟨hk.1.1,⟨hk.1.2.2.1,⟨hk.2,⟨hk.1.2.2.2.1,hk.1.2.2.2.2⟩⟩⟩⟩,hk.1.2.1⟩)) hg hat);replace za:=aM (Kd.R_after (ok:=(fun k_=>some k_≠(u561002:Value).ownBlock∧some k_≠(.slice (some yd) zh.length z1:Value).ownBlock)) (by(with_reducible repeat(first|apply rA|apply rN|apply rD));exact Kd.R_mono za.out (fun _ hk=>⟨⟨hk.1.2,hk.2⟩,hk.1.1⟩)) hg hat);replace zb:=aM (Kd.R_after (ok:=(fun k_=>some k_≠(u561000:Value).ownBlock∧some k_≠(.slice (some yd) zh.length z1:Value).ownBlock)) (by(with_reducible repeat(first|apply rA|apply rN|apply rD));exact Kd.R_mono zb.out (fun _ hk=>⟨⟨hk.1.1,hk.2⟩,hk.1.2⟩)) hg hat);replace zc:=aM (blk_grown (g:=zo) (pK zc.out) hg (Kd.R_ne zf.out zc.out (by decide)));replace zd:=aM (blk_grown (g:=ze) (pK zd.out) hg (Kd.R_ne zf.out zd.out (by decide)));replace HL567_0:=aM (Kd.V_afterv (ok:=(fun k_=>some k_≠(.slice (some yf) zn.length z8:Value).ownBlock∧some k_≠(u561000:Value).ownBlock∧some k_≠(u561002:Value).ownBlock∧some k_≠(.slice (some yd) zh.length z1:Value).ownBlock∧k_≠zo∧k_≠ze)) (by(with_reducible repeat(first|apply Kd.V_alloc|apply Kd.V_drewN|apply Kd.V_drew));exact Kd.V_mono HL567_0.out (fun _ hk=>⟨⟨hk.1.1,⟨hk.1.2.1,⟨hk.1.2.2.2.1,⟨hk.2,⟨hk.1.2.2.2.2.1,hk.1.2.2.2.2.2⟩⟩⟩⟩⟩,hk.1.2.2.1⟩)) hg hat);replace zi:=aM (Kd.R_after (ok:=(fun k_=>some k_≠(u561000:Value).ownBlock∧some k_≠(u561002:Value).ownBlock)) (by(with_reducible repeat(first|apply rA|apply rN|apply rD));exact Kd.R_mono zi.out (fun _ hk=>⟨⟨hk.1,hk.2.2⟩,hk.2.1⟩)) hg hat);replace HB:=aM (hb);have zz:=aM (ho);clear zf;clear ho hb hg hat;obtain⟨zt,zu,ybe⟩:=Kd.R_slice zz.out;subst ybe;have hcz54:=blk3 zd.out))
  have n0_:Aside0 (Kd.N (Kd.slice 3 (Kd.int .i64)) 22 (w52.setCell ⟨ze,1,none⟩ (.slice zt zr.length zu)) w.heap.size (fun k_=>some k_≠(u561000:Value).ownBlock∧some k_≠(u561002:Value).ownBlock∧some k_≠(.slice (some yd) zh.length z1:Value).ownBlock∧some k_≠(.slice zt zr.length zu:Value).ownBlock∧k_≠zo∧k_≠ze) (.slice (some yf) zn.length z8) zn):=⟨by(with_reducible repeat(first|apply Kd.N_alloc|apply Kd.N_drewN|apply Kd.N_drew));exact Kd.N_mono (Kd.N_far (p:=⟨ze,1,none⟩) (Kd.N_mono zj.out (fun k_ hk=>(⟨hk,hk.1.2.2.2.2⟩:_∧k_≠ze))) (fun _ hk=>hk.2) (.slice zt zr.length zu)) (fun _ hk=>⟨hk.1.1.1,⟨hk.1.1.2.1,⟨hk.1.1.2.2.1,⟨hk.1.2,⟨hk.1.1.2.2.2.1,hk.1.1.2.2.2.2⟩⟩⟩⟩⟩)⟩
  have n1_:Aside0 (Kd.R (Kd.int .i64) 3 (w52.setCell ⟨ze,1,none⟩ (.slice zt zr.length zu)) w.heap.size (fun k_=>some k_≠(u561002:Value).ownBlock∧some k_≠(.slice (some yd) zh.length z1:Value).ownBlock∧some k_≠(.slice zt zr.length zu:Value).ownBlock) u561000 zl):=⟨by(with_reducible repeat(first|apply rA|apply rN|apply rD));exact Kd.R_mono (Kd.R_far (p:=⟨ze,1,none⟩) (Kd.R_types za.out zd.out (by decide)) (fun _ hk=>hk.2) (.slice zt zr.length zu)) (fun _ hk=>⟨hk.1.1.1,⟨hk.1.1.2,hk.1.2⟩⟩)⟩
  have n2_:Aside0 (Kd.R (Kd.int .i64) 3 (w52.setCell ⟨ze,1,none⟩ (.slice zt zr.length zu)) w.heap.size (fun k_=>some k_≠(u561000:Value).ownBlock∧some k_≠(.slice (some yd) zh.length z1:Value).ownBlock∧some k_≠(.slice zt zr.length zu:Value).ownBlock) u561002 zg):=⟨by(with_reducible repeat(first|apply rA|apply rN|apply rD));exact Kd.R_mono (Kd.R_far (p:=⟨ze,1,none⟩) (Kd.R_types zb.out zd.out (by decide)) (fun _ hk=>hk.2) (.slice zt zr.length zu)) (fun _ hk=>⟨hk.1.1.1,⟨hk.1.1.2,hk.1.2⟩⟩)⟩
  have n3_:Aside0 (Kd.V (Kd.int .i64) 3 (w52.setCell ⟨ze,1,none⟩ (.slice zt zr.length zu)) w.heap.size (fun k_=>some k_≠(.slice (some yf) zn.length z8:Value).ownBlock∧some k_≠(u561000:Value).ownBlock∧some k_≠(u561002:Value).ownBlock∧some k_≠(.slice (some yd) zh.length z1:Value).ownBlock∧some k_≠(.slice zt zr.length zu:Value).ownBlock∧k_≠zo∧k_≠ze) (.slice yu (rd_L1 zn ya).length yv) (rd_L1 zn ya)):=⟨by(with_reducible repeat(first|apply Kd.V_alloc|apply Kd.V_drewN|apply Kd.V_drew));exact Kd.V_mono (Kd.V_far (p:=⟨ze,1,none⟩) (Kd.V_mono HL567_0.out (fun k_ hk=>(⟨hk,hk.1.2.2.2.2.2⟩:_∧k_≠ze))) (fun _ hk=>hk.2) (.slice zt zr.length zu)) (fun _ hk=>⟨hk.1.1.1,⟨hk.1.1.2.1,⟨hk.1.1.2.2.1,⟨hk.1.1.2.2.2.1,⟨hk.1.2,⟨hk.1.1.2.2.2.2.1,hk.1.1.2.2.2.2.2⟩⟩⟩⟩⟩⟩)⟩
  have n4_:Aside0 (Kd.R (Kd.int .i64) 3 (w52.setCell ⟨ze,1,none⟩ (.slice zt zr.length zu)) w.heap.size (fun k_=>some k_≠(u561000:Value).ownBlock∧some k_≠(u561002:Value).ownBlock∧some k_≠(.slice zt zr.length zu:Value).ownBlock) (.slice (some yd) zh.length z1) zh):=⟨by(with_reducible repeat(first|apply rA|apply rN|apply rD));exact Kd.R_mono (Kd.R_far (p:=⟨ze,1,none⟩) (Kd.R_types zi.out zd.out (by decide)) (fun _ hk=>hk.2) (.slice zt zr.length zu)) (fun _ hk=>⟨hk.1.1.1,⟨hk.1.1.2,hk.1.2⟩⟩)⟩
  have n5_:Aside0 (Kd.R (Kd.int .i64) 3 (w52.setCell ⟨ze,1,none⟩ (.slice zt zr.length zu)) w.heap.size (fun k_=>some k_≠(u561000:Value).ownBlock∧some k_≠(u561002:Value).ownBlock∧some k_≠(.slice (some yd) zh.length z1:Value).ownBlock) (.slice zt zr.length zu) zr):=⟨by(with_reducible repeat(first|apply rA|apply rN|apply rD));exact Kd.R_mono (Kd.R_far (p:=⟨ze,1,none⟩) (Kd.R_types zz.out zd.out (by decide)) (fun _ hk=>hk.2) (.slice zt zr.length zu)) (fun _ hk=>⟨hk.1.1,⟨hk.1.2.1,hk.1.2.2⟩⟩)⟩
  have n6_:Aside0 ((w52.setCell ⟨ze,1,none⟩ (.slice zt zr.length zu)).heap[zo]?=some (.cells #[.slice none 0 0,.slice none 0 0,.slice none 0 0] 32 (0,0))):=⟨by(with_reducible repeat(first|apply bN|apply bD|apply bA));refine blk_far ?_ zp.out _;(with_reducible repeat(first|apply bN|apply bD|apply bA));exact zc.out⟩
  have n7_:Aside0 ((w52.setCell ⟨ze,1,none⟩ (.slice zt zr.length zu)).heap[ze]?=some (.cells #[u561000,.slice zt zr.length zu,u561002] 32 (0,0))):=⟨by(with_reducible repeat(first|apply bN|apply bD|apply bA));refine blk_put (cs:=#[u561000,u561001,u561002]) ?_ 1 _ rfl;(with_reducible repeat(first|apply bN|apply bD|apply bA));exact zd.out⟩
  have n8_:Aside0 (Below w.heap.size w (w52.setCell ⟨ze,1,none⟩ (.slice zt zr.length zu))):=⟨qB2 HB zm zq⟩
  (try clear zj)
  (try clear za)
  (try clear zb)
  (try clear HL567_0)
  (try clear zi)
  (try clear zz)
  (try clear zc)
  (try clear zd)
  (try clear HB)
  generalize (w52.setCell ⟨ze,1,none⟩ (.slice zt zr.length zu))=w55 at n0_ n1_ n2_ n3_ n4_ n5_ n6_ n7_ n8_ ⊢
  have zj:=n0_
  have za:=n1_
  have zb:=n2_
  have HL567_0:=n3_
  have zi:=n4_
  have zz:=n5_
  have zc:=n6_
  have zd:=n7_
  have HB:=n8_
  clear n0_ n1_ n2_ n3_ n4_ n5_ n6_ n7_ n8_
  replace zj:=aM (Kd.N_drew zj.out)
  replace za:=aM (Kd.R_drew za.out)
  replace zb:=aM (Kd.R_drew zb.out)
  replace HL567_0:=aM (Kd.V_drew HL567_0.out)
  replace zi:=aM (Kd.R_drew zi.out)
  replace zz:=aM (Kd.R_drew zz.out)
  replace zc:=aM (blk_drew zc.out)
  replace zd:=aM (blk_drew zd.out)
  replace HB:=aM (below_drew1 HB.out)
  refine sT 9 [8] (fun w'=>w'.cell? ⟨ze,0,none⟩=some (u561000)∧w'.cell? ⟨ze,1,none⟩=some (.slice zt zr.length zu)∧w'.cell? ⟨ze,2,none⟩=some (u561002)) fbh.tab22 fbh.bits22 (h3 zd) (fun hHeld HT_ HW_=>?_)
  generalize w55.drew=w56 at zj za zb HL567_0 zi zz zc zd HB hHeld ⊢
  refine pQ 0 99 9 1 HT_ ?_
  refine pQ 2 101 9 5 HT_ ?_
  refine pQ 3 102 9 13 HT_ ?_
  refine pU3 1 100 9 15 HT_ HW_ hHeld ?_
  refine oN 4 103 9 31 HT_ (fun K hK=>?_)
  refine gS Try.func64 #[.slice (some yj) l0.length c0,.slice (some yd) zh.length z1] ?_
  with_reducible refine(fao.calls k3 _ _ l0 _ _ zh z9 _ ?s1 HC0.out ?s3 ?s4 A43.out).mono ?_
  (case s1=>exact sC HR0 HB)
  (case s3=>exact sR zi)
  (case s4=>exact sL zi)
  rintro e w57 ⟨rfl,hb⟩
  refine⟨_,rfl,?_⟩
  replace zj:=aM (Kd.N_below (by(with_reducible repeat(first|apply Kd.N_alloc|apply Kd.N_drewN|apply Kd.N_drew));exact zj.out) hb)
  replace za:=bR za hb
  replace zb:=bR zb hb
  replace HL567_0:=aM (Kd.V_below (pV HL567_0.out) hb)
  replace zi:=bR zi hb
  replace zz:=bR zz hb
  replace zc:=bK zc hb
  replace zd:=bK zd hb
  replace HB:=bS (qB2 HB zm zq) hb
  refine hK.out _ _ (h3 zd) (fun hHeld=>?_)
  clear hK K
  refine nM 103 ?_
  refine oN 5 104 9 63 HT_ (fun K hK=>?_)
  refine value_ (w1:=?_) (v:=?_) (by rfl) rfl ?_ ?_
  rotate_left 2
  ·go_simp
   constructor
   ·rfl
   ·rfl
  refine hK.out _ _ ⟨(blk_cell (blk_alloc zd.out _) 0).trans rfl,(blk_cell (blk_alloc zd.out _) 1).trans rfl,(blk_cell (blk_alloc zd.out _) 2).trans rfl⟩ (fun hHeld=>?_)
  clear hK K
  refine nM 104 ?_
  refine oN 6 105 9 127 HT_ (fun K hK=>?_)
  refine Kd.R_append_step (Kd.int .i64) (w0:=w) w.heap.size (by rfl) (.tmp 100) (.tmp 104) 22 3 (.int .i64 0) 8 rfl Try.underlying22 info3 rfl (by decide) (by omega) u561002 zg z9 [.int .i64 z9] (fun k_=>some k_≠(u561000:Value).ownBlock∧some k_≠(.slice (some yd) zh.length z1:Value).ownBlock∧some k_≠(.slice zt zr.length zu:Value).ownBlock) (fun _=>False) rfl rfl ?aP (fun _ hk=>hk.elim) ?aF ?aO ?aB ?aS ?aL ?_
  (case aP=>exact rfl)
  (case aB=>exact(qB2 HB zm zq))
  (case aF=>exact(fun k_ hk=>⟨Kd.fresh' (Kd.R_lt (pR za.out)) k_ hk,Kd.fresh' (Kd.R_lt (pR zi.out)) k_ hk,Kd.fresh' (Kd.R_lt (pR zz.out)) k_ hk⟩))
  (case aO=>exact(pR zb.out))
  (case aS=>exact(below_size (qB2 HB zm zq)))
  (case aL=>have:=LMc44.out;omega)
  intro v578 w58 ho hb hg hat
  rw[← Ny577.out] at ho
  replace zj:=aM (Kd.N_afterv (ok:=(fun k_=>some k_≠(u561000:Value).ownBlock∧some k_≠(.slice (some yd) zh.length z1:Value).ownBlock∧some k_≠(.slice zt zr.length zu:Value).ownBlock∧k_≠zo∧k_≠ze)) (by(with_reducible repeat(first|apply Kd.N_alloc|apply Kd.N_drewN|apply Kd.N_drew));exact Kd.N_mono zj.out (fun _ hk=>⟨⟨hk.1,⟨hk.2.2.1,⟨hk.2.2.2.1,⟨hk.2.2.2.2.1,hk.2.2.2.2.2⟩⟩⟩⟩,hk.2.1⟩)) hg hat)
  replace za:=aM (Kd.R_after (ok:=(fun k_=>some k_≠(.slice (some yd) zh.length z1:Value).ownBlock∧some k_≠(.slice zt zr.length zu:Value).ownBlock)) (by(with_reducible repeat(first|apply rA|apply rN|apply rD));exact Kd.R_mono za.out (fun _ hk=>⟨⟨hk.2.1,hk.2.2⟩,hk.1⟩)) hg hat)
  replace zc:=aM (blk_grown (g:=zo) (pK zc.out) hg (Kd.R_ne zb.out zc.out (by decide)))
  replace zd:=aM (blk_grown (g:=ze) (pK zd.out) hg (Kd.R_ne zb.out zd.out (by decide)))
  replace HL567_0:=aM (Kd.V_afterv (ok:=(fun k_=>some k_≠(.slice (some yf) zn.length z8:Value).ownBlock∧some k_≠(u561000:Value).ownBlock∧some k_≠(.slice (some yd) zh.length z1:Value).ownBlock∧some k_≠(.slice zt zr.length zu:Value).ownBlock∧k_≠zo∧k_≠ze)) (by(with_reducible repeat(first|apply Kd.V_alloc|apply Kd.V_drewN|apply Kd.V_drew));exact Kd.V_mono HL567_0.out (fun _ hk=>⟨⟨hk.1,⟨hk.2.1,⟨hk.2.2.2.1,⟨hk.2.2.2.2.1,⟨hk.2.2.2.2.2.1,hk.2.2.2.2.2.2⟩⟩⟩⟩⟩,hk.2.2.1⟩)) hg hat)
  replace zi:=aM (Kd.R_after (ok:=(fun k_=>some k_≠(u561000:Value).ownBlock∧some k_≠(.slice zt zr.length zu:Value).ownBlock)) (by(with_reducible repeat(first|apply rA|apply rN|apply rD));exact Kd.R_mono zi.out (fun _ hk=>⟨⟨hk.1,hk.2.2⟩,hk.2.1⟩)) hg hat)
  replace zz:=aM (Kd.R_after (ok:=(fun k_=>some k_≠(u561000:Value).ownBlock∧some k_≠(.slice (some yd) zh.length z1:Value).ownBlock)) (by(with_reducible repeat(first|apply rA|apply rN|apply rD));exact Kd.R_mono zz.out (fun _ hk=>⟨⟨hk.1,hk.2.2⟩,hk.2.1⟩)) hg hat)
  replace HB:=aM (hb)
  have za2:=aM (ho)
  clear zb
  clear ho hb hg hat
  obtain⟨zap,zaq,zbc⟩:=Kd.R_slice za2.out
  (first|subst zbc|(injection zbc with f1_ f2_ f3_;have f4_:=f1_.symm;have f5_:=f3_.symm;clear f1_ f2_ f3_;subst f4_;subst f5_))
  refine hK.out _ _ (h3 zd) (fun hHeld=>?_)
  clear hK K
  refine nM 105 ?_
  refine pQ 7 106 9 255 HT_ ?_
  refine last_ (i:=8) (N:=none) (bm 9 511) rfl rfl (one_of HT_.out (by kernel_rfl)) (by decide) (fun K hK=>?_)
  have hs60:w58.cell? ⟨ze,2,none⟩=some (u561002):=(blk_cell zd.out 2).trans rfl
  have hfs60:=blk_frozen zd.out 2
  have hns60_0:=zp.out
  have hms60_0:=zx.out
  refine skip_ (w1:=?_) (by rfl) rfl ?_ ?_
  rotate_left
  ·go_simp
   rfl
  refine hK.out _ _ ?_
  clear hK K
  refine dN HT_ ?_
  try go_wp2
  go_roundg k3
  case measure=>have:=HJ3.out;have:=HK2.out;have:=HK3.out;omega
  case rel=>exact⟨(wrap64 (ya+1)),(zl),(zr),(zaf),(u561000),(.slice zt zr.length zu),(.slice zap zaf.length zaq),(pF),H',⟨by have:=HJ3.out;have:=HK2.out;have:=HK3.out;omega⟩,⟨by(with_reducible repeat(first|apply Kd.N_alloc|apply Kd.N_drewN|apply Kd.N_drew));exact Kd.N_mono (Kd.N_far (p:=⟨ze,2,none⟩) (Kd.N_mono zj.out (fun k_ hk=>(⟨hk,hk.1.2.2.2.2⟩:_∧k_≠ze))) (fun _ hk=>hk.2) (.slice zap zaf.length zaq)) (fun _ hk=>⟨hk.1.1.1,⟨hk.1.1.2.2.1,⟨hk.1.2,⟨hk.1.1.2.2.2.1,hk.1.1.2.2.2.2⟩⟩⟩⟩)⟩,⟨by(with_reducible repeat(first|apply rA|apply rN|apply rD));exact Kd.R_mono (Kd.R_far (p:=⟨ze,2,none⟩) (Kd.R_types za.out zd.out (by decide)) (fun _ hk=>hk.2) (.slice zap zaf.length zaq)) (fun _ hk=>⟨hk.1.1.2,hk.1.2⟩)⟩,⟨by(with_reducible repeat(first|apply rA|apply rN|apply rD));exact Kd.R_mono (Kd.R_far (p:=⟨ze,2,none⟩) (Kd.R_types zz.out zd.out (by decide)) (fun _ hk=>hk.2) (.slice zap zaf.length zaq)) (fun _ hk=>⟨hk.1.1.1,hk.1.2⟩)⟩,⟨by(with_reducible repeat(first|apply rA|apply rN|apply rD));exact Kd.R_mono (Kd.R_far (p:=⟨ze,2,none⟩) (Kd.R_types za2.out zd.out (by decide)) (fun _ hk=>hk.2) (.slice zap zaf.length zaq)) (fun _ hk=>⟨hk.1.1,hk.1.2.2⟩)⟩,⟨by(with_reducible repeat(first|apply bN|apply bD|apply bA));refine blk_far ?_ zp.out _;(with_reducible repeat(first|apply bN|apply bD|apply bA));exact zc.out⟩,⟨by(with_reducible repeat(first|apply bN|apply bD|apply bA));refine blk_put (cs:=#[u561000,.slice zt zr.length zu,u561002]) ?_ 2 _ rfl;(with_reducible repeat(first|apply bN|apply bD|apply bA));exact zd.out⟩,⟨qB2 HB zm zq⟩⟩
 rw[iN c41] at H
 have yaq:=dF c41
 clear c41
 obtain⟨zad,zar⟩:∃ y_:List Int,y_=(zh.set (a2:Int).toNat (wrap64 ((rd zh a2)-(rd l0 a2)))):=⟨_,rfl⟩
 replace H:(if zk.length<17592186044416 then((fao.f k3 l1 zad).bind fun z5=>(if zg.length<17592186044416 then(fbh.l1 k3 l0 l1 a2 zn (zn.length:Int) (wrap64 (ya+1)) zl (zk++[1]) (zg++[z5]))else(none)))else(none))=some (r1,r2,r3,r4):=pH zar H
 have Ny582:=aM zar
 clear zar
 by_cases c62:zk.length<17592186044416
 rotate_left
 ·rw[iN c62] at H
  cases H
 rw[ip c62] at H
 have LMc62:=aM c62
 clear c62
 obtain⟨zs,zas⟩:∃ y_:List Int,y_=(zk++[1]):=⟨_,rfl⟩
 replace H:((fao.f k3 l1 zad).bind fun z5=>(if zg.length<17592186044416 then(fbh.l1 k3 l0 l1 a2 zn (zn.length:Int) (wrap64 (ya+1)) zl zs (zg++[z5]))else(none)))=some (r1,r2,r3,r4):=pH zas H
 have Ny583:=aM zas
 clear zas
 replace H:=oB H
 obtain⟨z5,zbd,H⟩:=H
 try dsimp only at H
 have A63:=aM zbd
 clear zbd
 by_cases c64:zg.length<17592186044416
 rotate_left
 ·rw[iN c64] at H
  cases H
 rw[ip c64] at H
 have LMc64:=aM c64
 clear c64
 obtain⟨zag,zat⟩:∃ y_:List Int,y_=(zg++[z5]):=⟨_,rfl⟩
 replace H:(fbh.l1 k3 l0 l1 a2 zn (zn.length:Int) (wrap64 (ya+1)) zl zs zag)=some (r1,r2,r3,r4):=pH zat H
 have Ny587:=aM zat
 clear zat
 have H':=aM H
 clear H
 try go_wp2_with (first|((with_reducible refine gD 79 rfl ?_);(try (refine gate_guard (by rfl) ?_;dsimp only));refine Kd.R_lit (Kd.int .i64) _ 3 ?hg (N:=79) ?hd (xs:=([]:List Int)) (inner:=[]) (ok:=fun _=>True) (okp:=fun _=>True) ?hr ?hp (fun _ hk=>hk) trivial (Below.refl _ _) (Nat.le_refl _) (by simp) ?_;(case hd=>rfl);(case hg=>rfl);(case hr=>first|(go_simp;done)|(go_simp;rfl));(case hp=>exact(Reps.none _ _));intro za4 w65 ho66 hb hg_ hnew_;clear hg_ hnew_;(first|rw[← zah.out] at ho66|(simp only[Int.reduceToNat] at ho66;rw[← zah.out] at ho66));replace zj:=aM (Kd.N_elder' (by(with_reducible repeat(first|apply Kd.N_alloc|apply Kd.N_drewN|apply Kd.N_drew));exact zj.out) (Kd.R_base ho66) hb);have z6:=aM (Kd.R_lower (Kd.R_new' (Kd.R_new' (Kd.R_new' ho66 (Kd.R_lt (pR za.out))) (Kd.R_lt (pR zf.out))) (Kd.R_lt (pR zb.out))) (below_size (qB2 HB zm zq)));replace za:=eR za ho66 hb;replace zf:=eR zf ho66 hb;replace zb:=eR zb ho66 hb;replace zc:=bK zc hb;replace zd:=bK zd hb;replace HB:=bS (qB2 HB zm zq) hb;clear hb ho66;have y5:0≤(ya:Int):=oD;have y6:ya<(zn.length:Int):=oD;obtain⟨yf,yu,yv,yaa,yw,ym,yn⟩:=at_L1 (Kd.N_reads' zj.out).2.2 ya y5 y6;cases yaa;obtain⟨yar,yz,y0,yr⟩:=Kd.N_get zj.out [] ya y5 (by first|exact y6|exact of_decide_eq_true pD|(have e_:=(Kd.N_reads' zj.out).1;omega));obtain⟨ua567_0,uc567_0,rfl,ul567_0,ge567_0⟩:=Kd.FK_slice_open y0;have hv567_0:=yr 0 _ rfl;rw[Nat.add_zero,show ((Kd.slice 3 (Kd.int .i64))).sz=1 from rfl,Nat.mul_one] at hv567_0;replace hv567_0:=Option.some.inj (hv567_0.symm.trans yw);injection hv567_0 with hva_ hvn_ hvc_;rw[hva_] at ge567_0;rw[hvc_] at ul567_0;have HL567_0:=aM (show Kd.V (Kd.int .i64) 3 _ w.heap.size _ _ (rd_L1 zn ya) from Kd.V_mk ul567_0 ge567_0);clear hva_ hvn_ hvc_ ge567_0 ul567_0;clear yr yz;have z7:=aM yn;have y8:=aM ym;clear yn ym)|((with_reducible refine gate_builtin (b:=.append) (xs:=#[.tmp 79,.tmp 83]) rfl ?_);(try (refine gate_guard (by rfl) ?_;dsimp only));at_builtin;refine Kd.R_append_rows (Kd.int .i64) (w0:=w) w.heap.size rfl (.tmp 79) (.tmp 83) 22 3 (.int .i64 0) 8 rfl Try.underlying22 info3 rfl (by decide) (by omega) za4 zac (rd_L1 zn ya) _ _ _ (fun k_=>some k_≠(u561000:Value).ownBlock∧some k_≠(u561001:Value).ownBlock∧some k_≠(u561002:Value).ownBlock) (fun _=>False) rfl rfl ?aO ?aR (fun _ _ h=>h) (fun _ h=>h.elim) ?aF ?aB ?aS ?aL ?_;(case aR=>repeat(first|exact(by repeat(first|(with_reducible exact z7.out)|(with_reducible refine Kd.C_alloc ?_ _)|(with_reducible refine Kd.C_drewN ?_ _)|(with_reducible refine Kd.C_drew ?_)|exact z7.out))|(with_reducible refine Kd.C_alloc ?_ _)|(with_reducible refine Kd.C_drewN ?_ _)|(with_reducible refine Kd.C_drew ?_)));(case aB=>exact(qB2 HB zm zq));(case aF=>exact(fun k_ hk=>⟨Kd.fresh' (Kd.R_lt (pR za.out)) k_ hk,Kd.fresh' (Kd.R_lt (pR zf.out)) k_ hk,Kd.fresh' (Kd.R_lt (pR zb.out)) k_ hk⟩));(case aO=>exact(by(with_reducible repeat(first|apply rA|apply rN|apply rD));exact Kd.R_mono z6.out (fun _ hk=>⟨hk.1.1.2,⟨hk.1.2,hk.2⟩⟩)));(case aS=>exact(below_size (qB2 HB zm zq)));(case aL=>have:=za0.out;omega);intro v569 w67 ho hb hg hat;rw[← za1.out] at ho;replace zj:=aM (Kd.N_afterv (ok:=(fun k_=>some k_≠(u561000:Value).ownBlock∧some k_≠(u561001:Value).ownBlock∧some k_≠(u561002:Value).ownBlock∧k_≠zo∧k_≠ze)) (by(with_reducible repeat(first|apply Kd.N_alloc|apply Kd.N_drewN|apply Kd.N_drew));exact zj.out) hg hat);replace za:=aM (Kd.R_after (ok:=(fun k_=>some k_≠(u561001:Value).ownBlock∧some k_≠(u561002:Value).ownBlock)) (pR za.out) hg hat);replace zf:=aM (Kd.R_after (ok:=(fun k_=>some k_≠(u561000:Value).ownBlock∧some k_≠(u561002:Value).ownBlock)) (pR zf.out) hg hat);replace zb:=aM (Kd.R_after (ok:=(fun k_=>some k_≠(u561000:Value).ownBlock∧some k_≠(u561001:Value).ownBlock)) (pR zb.out) hg hat);replace zc:=aM (blk_grown (g:=zo) (pK zc.out) hg (Kd.R_ne z6.out zc.out (by decide)));replace zd:=aM (blk_grown (g:=ze) (pK zd.out) hg (Kd.R_ne z6.out zd.out (by decide)));replace HL567_0:=aM (Kd.V_afterv (ok:=(fun k_=>some k_≠(.slice (some yf) zn.length z8:Value).ownBlock∧some k_≠(u561000:Value).ownBlock∧some k_≠(u561001:Value).ownBlock∧some k_≠(u561002:Value).ownBlock∧k_≠zo∧k_≠ze)) (by(with_reducible repeat(first|apply Kd.V_alloc|apply Kd.V_drewN|apply Kd.V_drew));exact Kd.V_mono HL567_0.out (fun _ hk=>⟨⟨hk.2,⟨hk.1.1.1,⟨hk.1.1.2.1,⟨hk.1.1.2.2.1,⟨hk.1.1.2.2.2.1,hk.1.1.2.2.2.2⟩⟩⟩⟩⟩,hk.1.2⟩)) hg hat);replace HB:=aM (hb);have zi:=aM (ho);clear z6;clear ho hb hg hat))
 replace zj:=aM (Kd.N_drew zj.out)
 replace za:=aM (Kd.R_drew za.out)
 replace zf:=aM (Kd.R_drew zf.out)
 replace zb:=aM (Kd.R_drew zb.out)
 replace HL567_0:=aM (Kd.V_drew HL567_0.out)
 replace zi:=aM (Kd.R_drew zi.out)
 replace zc:=aM (blk_drew zc.out)
 replace zd:=aM (blk_drew zd.out)
 replace HB:=aM (below_drew1 HB.out)
 obtain⟨Ao69,zy,zbe⟩:=Kd.R_slice zi.out
 (first|subst zbe|(injection zbe with f1_ f2_ f3_;have f4_:=f1_.symm;have f5_:=f3_.symm;clear f1_ f2_ f3_;subst f4_;subst f5_))
 obtain⟨yd,⟨⟩,yi,yba,ybb⟩:=zI (Kd.R_reads' zi.out).2.2 a2
 obtain⟨y7,yab,ye,ybc,ybd⟩:=zI HR0.out a2
 have yx:=ye
 obtain rfl:yj=y7:=(by injection yab)
 replace ye:=zW HB ye
 refine sT 9 [] (fun w'=>w'.cell? (yd.add (a2).toNat)=some (.int .i64 (rd zh a2))∧w'.cell? (yj.add (a2).toNat)=some (.int .i64 (rd l0 a2))) fbh.tab20 fbh.bits20 ⟨yi,(zW HB yx)⟩ (fun hHeld HT_ HW_=>?_)
 generalize w67.drew=w68 at zj za zf zb HL567_0 zi zc zd HB yi ye hHeld ⊢
 refine pQ 0 85 9 1 HT_ ?_
 refine pQ 1 86 9 3 HT_ ?_
 refine pQ 2 87 9 7 HT_ ?_
 refine pQ 4 89 9 23 HT_ ?_
 refine pQ 5 90 9 55 HT_ ?_
 refine pQ 6 91 9 119 HT_ ?_
 refine pU2 3 88 9 127 HT_ HW_ hHeld ?_
 refine pU2 7 92 9 255 HT_ HW_ hHeld ?_
 refine pQ 8 93 9 511 HT_ ?_
 refine dN HT_ ?_
 try go_wp2
 replace zj:=aM (Kd.N_drew zj.out)
 replace za:=aM (Kd.R_drew za.out)
 replace zf:=aM (Kd.R_drew zf.out)
 replace zb:=aM (Kd.R_drew zb.out)
 replace HL567_0:=aM (Kd.V_drew HL567_0.out)
 replace zi:=aM (Kd.R_drew zi.out)
 replace zc:=aM (blk_drew zc.out)
 replace zd:=aM (blk_drew zd.out)
 replace HB:=aM (below_drew1 HB.out)
 obtain⟨yas,ybf,yy,p580,q580⟩:=zI (Kd.R_reads' zi.out).2.2 a2
 obtain rfl:yd=yas:=(by injection ybf)
 obtain⟨yat,ybg,yq,p581,q581⟩:=zI HR0.out a2
 have y9:=yq
 obtain rfl:yj=yat:=(by injection ybg)
 replace yq:=zW HB yq
 have p61:0≤(a2:Int):=oD
 have q61:(a2:Int)<((zh.length:Int):Int):=oD
 obtain⟨yb,co61,zbf,zbg,gl61,cl61,HG61⟩:=Kd.R_form zi.out (by omega)
 (first|cases zbf|(injection zbf with ea_ en_ ec_;(first|subst ea_|(injection ea_ with ea_;subst ea_));subst ec_;clear en_))
 have GB61:=aM zbg
 have GG61:=aM HG61
 clear zbg gl61 HG61
 (first|simp only[add_plain] at yi|skip)
 (first|simp only[add_plain] at yy|skip)
 obtain⟨yac,hf61_0⟩:=Kd.R_celln 0 zi.out (a2:Int) p61 q61
 have HP71:=Kd.R_putn zi.out (a2:Int) (wrap64 ((rd zh a2)-(rd l0 a2)))
 rw[← Ny582.out] at HP71
 have HQ71:=aM HP71
 clear HP71
 refine sT 13 [12] (fun w'=>w'.cell? ⟨yb,(a2).toNat,none⟩=some (.int .i64 (rd zh a2))∧w'.cell? (yj.add (a2).toNat)=some (.int .i64 (rd l0 a2))) fbh.tab23 fbh.bits23 ⟨yy,(zW HB y9)⟩ (fun hHeld HT_ HW_=>?_)
 generalize w68.drew=w70 at zj za zf zb HL567_0 zi zc zd HB GG61 HQ71 hf61_0 yi yy yq yac hHeld ⊢
 refine pQ 0 107 13 1 HT_ ?_
 refine pQ 1 108 13 3 HT_ ?_
 refine pQ 2 109 13 7 HT_ ?_
 refine pQ 3 110 13 15 HT_ ?_
 refine pQ 4 111 13 31 HT_ ?_
 refine pQ 6 113 13 95 HT_ ?_
 refine pQ 7 114 13 223 HT_ ?_
 refine pQ 8 115 13 479 HT_ ?_
 refine pU2 5 112 13 511 HT_ HW_ hHeld ?_
 refine pU2 9 116 13 1023 HT_ HW_ hHeld ?_
 refine pQ 10 117 13 2047 HT_ ?_
 refine pQ 11 118 13 4095 HT_ ?_
 refine last_ (i:=12) (N:=none) (bm 13 8191) rfl rfl (one_of HT_.out (by kernel_rfl)) (by decide) (fun K hK=>?_)
 refine skip_ (w1:=?_) (by rfl) rfl ?_ ?_
 rotate_left
 ·go_simp
  rfl
 refine hK.out _ _ ?_
 clear hK K
 refine dN HT_ ?_
 have n0_:Aside0 (Kd.N (Kd.slice 3 (Kd.int .i64)) 22 (w70.setCell ⟨yb,(a2:Int).toNat,none⟩ (.int .i64 (wrap64 ((rd zh a2)-(rd l0 a2))))) w.heap.size (fun k_=>some k_≠(u561000:Value).ownBlock∧some k_≠(u561001:Value).ownBlock∧some k_≠(u561002:Value).ownBlock∧some k_≠(.slice (some ⟨yb,0,none⟩) zh.length zy:Value).ownBlock∧k_≠zo∧k_≠ze) (.slice (some yf) zn.length z8) zn):=⟨by(with_reducible repeat(first|apply Kd.N_alloc|apply Kd.N_drewN|apply Kd.N_drew));exact Kd.N_mono (Kd.N_far (p:=⟨yb,(a2:Int).toNat,none⟩) (Kd.N_mono zj.out (fun k_ hk=>(⟨hk,fun e_=>hk.2 (by rw[e_];rfl)⟩:_∧k_≠yb))) (fun _ hk=>hk.2) (.int .i64 (wrap64 ((rd zh a2)-(rd l0 a2))))) (fun _ hk=>⟨hk.1.1.1,⟨hk.1.1.2.1,⟨hk.1.1.2.2.1,⟨hk.1.2,⟨hk.1.1.2.2.2.1,hk.1.1.2.2.2.2⟩⟩⟩⟩⟩)⟩
 have n1_:Aside0 (Kd.R (Kd.int .i64) 3 (w70.setCell ⟨yb,(a2:Int).toNat,none⟩ (.int .i64 (wrap64 ((rd zh a2)-(rd l0 a2))))) w.heap.size (fun k_=>some k_≠(u561001:Value).ownBlock∧some k_≠(u561002:Value).ownBlock∧some k_≠(.slice (some ⟨yb,0,none⟩) zh.length zy:Value).ownBlock) u561000 zl):=⟨by(with_reducible repeat(first|apply rA|apply rN|apply rD));exact Kd.R_mono (Kd.R_far (p:=⟨yb,(a2:Int).toNat,none⟩) (Kd.R_mono za.out (fun k_ hk=>(⟨hk,fun e_=>hk.2 (by rw[e_];rfl)⟩:_∧k_≠yb))) (fun _ hk=>hk.2) (.int .i64 (wrap64 ((rd zh a2)-(rd l0 a2))))) (fun _ hk=>⟨hk.1.1.1,⟨hk.1.1.2,hk.1.2⟩⟩)⟩
 have n2_:Aside0 (Kd.R (Kd.int .i64) 3 (w70.setCell ⟨yb,(a2:Int).toNat,none⟩ (.int .i64 (wrap64 ((rd zh a2)-(rd l0 a2))))) w.heap.size (fun k_=>some k_≠(u561000:Value).ownBlock∧some k_≠(u561002:Value).ownBlock∧some k_≠(.slice (some ⟨yb,0,none⟩) zh.length zy:Value).ownBlock) u561001 zk):=⟨by(with_reducible repeat(first|apply rA|apply rN|apply rD));exact Kd.R_mono (Kd.R_far (p:=⟨yb,(a2:Int).toNat,none⟩) (Kd.R_mono zf.out (fun k_ hk=>(⟨hk,fun e_=>hk.2 (by rw[e_];rfl)⟩:_∧k_≠yb))) (fun _ hk=>hk.2) (.int .i64 (wrap64 ((rd zh a2)-(rd l0 a2))))) (fun _ hk=>⟨hk.1.1.1,⟨hk.1.1.2,hk.1.2⟩⟩)⟩
 have n3_:Aside0 (Kd.R (Kd.int .i64) 3 (w70.setCell ⟨yb,(a2:Int).toNat,none⟩ (.int .i64 (wrap64 ((rd zh a2)-(rd l0 a2))))) w.heap.size (fun k_=>some k_≠(u561000:Value).ownBlock∧some k_≠(u561001:Value).ownBlock∧some k_≠(.slice (some ⟨yb,0,none⟩) zh.length zy:Value).ownBlock) u561002 zg):=⟨by(with_reducible repeat(first|apply rA|apply rN|apply rD));exact Kd.R_mono (Kd.R_far (p:=⟨yb,(a2:Int).toNat,none⟩) (Kd.R_mono zb.out (fun k_ hk=>(⟨hk,fun e_=>hk.2 (by rw[e_];rfl)⟩:_∧k_≠yb))) (fun _ hk=>hk.2) (.int .i64 (wrap64 ((rd zh a2)-(rd l0 a2))))) (fun _ hk=>⟨hk.1.1.1,⟨hk.1.1.2,hk.1.2⟩⟩)⟩
 have n4_:Aside0 (Kd.V (Kd.int .i64) 3 (w70.setCell ⟨yb,(a2:Int).toNat,none⟩ (.int .i64 (wrap64 ((rd zh a2)-(rd l0 a2))))) w.heap.size (fun k_=>some k_≠(.slice (some yf) zn.length z8:Value).ownBlock∧some k_≠(u561000:Value).ownBlock∧some k_≠(u561001:Value).ownBlock∧some k_≠(u561002:Value).ownBlock∧some k_≠(.slice (some ⟨yb,0,none⟩) zh.length zy:Value).ownBlock∧k_≠zo∧k_≠ze) (.slice yu (rd_L1 zn ya).length yv) (rd_L1 zn ya)):=⟨by(with_reducible repeat(first|apply Kd.V_alloc|apply Kd.V_drewN|apply Kd.V_drew));exact Kd.V_mono (Kd.V_far (p:=⟨yb,(a2:Int).toNat,none⟩) (Kd.V_mono HL567_0.out (fun k_ hk=>(⟨hk,fun e_=>hk.2 (by rw[e_];rfl)⟩:_∧k_≠yb))) (fun _ hk=>hk.2) (.int .i64 (wrap64 ((rd zh a2)-(rd l0 a2))))) (fun _ hk=>⟨hk.1.1.1,⟨hk.1.1.2.1,⟨hk.1.1.2.2.1,⟨hk.1.1.2.2.2.1,⟨hk.1.2,⟨hk.1.1.2.2.2.2.1,hk.1.1.2.2.2.2.2⟩⟩⟩⟩⟩⟩)⟩
 have n5_:Aside0 (Kd.R (Kd.int .i64) 3 (w70.setCell ⟨yb,(a2:Int).toNat,none⟩ (.int .i64 (wrap64 ((rd zh a2)-(rd l0 a2))))) w.heap.size (fun k_=>some k_≠(u561000:Value).ownBlock∧some k_≠(u561001:Value).ownBlock∧some k_≠(u561002:Value).ownBlock) (.slice (some ⟨yb,0,none⟩) zh.length zy) zad):=⟨pR HQ71.out⟩
 have n6_:Aside0 ((w70.setCell ⟨yb,(a2:Int).toNat,none⟩ (.int .i64 (wrap64 ((rd zh a2)-(rd l0 a2))))).heap[zo]?=some (.cells #[.slice none 0 0,.slice none 0 0,.slice none 0 0] 32 (0,0))):=⟨by(with_reducible repeat(first|apply bN|apply bD|apply bA));refine blk_far ?_ (by have h_:=Kd.R_ne zi.out zc.out (by decide);intro e_;exact h_ (by rw[e_];rfl)) _;(with_reducible repeat(first|apply bN|apply bD|apply bA));exact zc.out⟩
 have n7_:Aside0 ((w70.setCell ⟨yb,(a2:Int).toNat,none⟩ (.int .i64 (wrap64 ((rd zh a2)-(rd l0 a2))))).heap[ze]?=some (.cells #[u561000,u561001,u561002] 32 (0,0))):=⟨by(with_reducible repeat(first|apply bN|apply bD|apply bA));refine blk_far ?_ (by have h_:=Kd.R_ne zi.out zd.out (by decide);intro e_;exact h_ (by rw[e_];rfl)) _;(with_reducible repeat(first|apply bN|apply bD|apply bA));exact zd.out⟩
 have n8_:Aside0 (Below w.heap.size w (w70.setCell ⟨yb,(a2:Int).toNat,none⟩ (.int .i64 (wrap64 ((rd zh a2)-(rd l0 a2)))))):=⟨qB3 HB GB61 zm zq⟩
 (try clear zj)
 (try clear za)
 (try clear zf)
 (try clear zb)
 (try clear HL567_0)
 (try clear zi)
 (try clear zc)
 (try clear zd)
 (try clear HB)
 generalize (w70.setCell ⟨yb,(a2:Int).toNat,none⟩ (.int .i64 (wrap64 ((rd zh a2)-(rd l0 a2)))))=w72 at n0_ n1_ n2_ n3_ n4_ n5_ n6_ n7_ n8_ ⊢
 have zj:=n0_
 have za:=n1_
 have zf:=n2_
 have zb:=n3_
 have HL567_0:=n4_
 have zi:=n5_
 have zc:=n6_
 have zd:=n7_
 have HB:=n8_
 clear n0_ n1_ n2_ n3_ n4_ n5_ n6_ n7_ n8_
 have hnb73:=zx.out
 have hnc73:=zp.out
 have hcz74:=blk3 zd.out
 try go_wp2_with (first|((with_reducible refine gate_builtin (b:=.append) (xs:=#[.tmp 120,.tmp 121]) rfl ?_);(try (refine gate_guard (by rfl) ?_;dsimp only));at_builtin;refine Kd.R_append (Kd.int .i64) (w0:=w) w.heap.size rfl (.tmp 120) (.tmp 121) 22 3 (.int .i64 0) 8 rfl Try.underlying22 info3 rfl (by decide) (by omega) u561001 zk 1 [.int .i64 1] (fun k_=>some k_≠(u561000:Value).ownBlock∧some k_≠(u561002:Value).ownBlock∧some k_≠(.slice (some ⟨yb,0,none⟩) zh.length zy:Value).ownBlock) (fun _=>False) rfl rfl ?aP (fun _ hk=>hk.elim) ?aF ?aO ?aB ?aS ?aL ?_;(case aP=>exact rfl);(case aB=>exact(qB2 HB zm zq));(case aF=>exact(fun k_ hk=>⟨Kd.fresh' (Kd.R_lt (pR za.out)) k_ hk,Kd.fresh' (Kd.R_lt (pR zb.out)) k_ hk,Kd.fresh' (Kd.R_lt (pR zi.out)) k_ hk⟩));(case aO=>exact(pR zf.out));(case aS=>exact(below_size (qB2 HB zm zq)));(case aL=>have:=LMc62.out;omega);intro v584 w75 ho hb hg hat;rw[← Ny583.out] at ho;replace zj:=aM (Kd.N_afterv (ok:=(fun k_=>some k_≠(u561000:Value).ownBlock∧some k_≠(u561002:Value).ownBlock∧some k_≠(.slice (some ⟨yb,0,none⟩) zh.length zy:Value).ownBlock∧k_≠zo∧k_≠ze)) (by(with_reducible repeat(first|apply Kd.N_alloc|apply Kd.N_drewN|apply Kd.N_drew));exact Kd.N_mono zj.out (fun _ hk=>⟨⟨hk.1,⟨hk.2.2.1,⟨hk.2.2.2.1,⟨hk.2.2.2.2.1,hk.2.2.2.2.2⟩⟩⟩⟩,hk.2.1⟩)) hg hat);replace za:=aM (Kd.R_after (ok:=(fun k_=>some k_≠(u561002:Value).ownBlock∧some k_≠(.slice (some ⟨yb,0,none⟩) zh.length zy:Value).ownBlock)) (by(with_reducible repeat(first|apply rA|apply rN|apply rD));exact Kd.R_mono za.out (fun _ hk=>⟨⟨hk.2.1,hk.2.2⟩,hk.1⟩)) hg hat);replace zb:=aM (Kd.R_after (ok:=(fun k_=>some k_≠(u561000:Value).ownBlock∧some k_≠(.slice (some ⟨yb,0,none⟩) zh.length zy:Value).ownBlock)) (by(with_reducible repeat(first|apply rA|apply rN|apply rD));exact Kd.R_mono zb.out (fun _ hk=>⟨⟨hk.1,hk.2.2⟩,hk.2.1⟩)) hg hat);replace zc:=aM (blk_grown (g:=zo) (pK zc.out) hg (Kd.R_ne zf.out zc.out (by decide)));replace zd:=aM (blk_grown (g:=ze) (pK zd.out) hg (Kd.R_ne zf.out zd.out (by decide)));replace HL567_0:=aM (Kd.V_afterv (ok:=(fun k_=>some k_≠(.slice (some yf) zn.length z8:Value).ownBlock∧some k_≠(u561000:Value).ownBlock∧some k_≠(u561002:Value).ownBlock∧some k_≠(.slice (some ⟨yb,0,none⟩) zh.length zy:Value).ownBlock∧k_≠zo∧k_≠ze)) (by(with_reducible repeat(first|apply Kd.V_alloc|apply Kd.V_drewN|apply Kd.V_drew));exact Kd.V_mono HL567_0.out (fun _ hk=>⟨⟨hk.1,⟨hk.2.1,⟨hk.2.2.2.1,⟨hk.2.2.2.2.1,⟨hk.2.2.2.2.2.1,hk.2.2.2.2.2.2⟩⟩⟩⟩⟩,hk.2.2.1⟩)) hg hat);replace zi:=aM (Kd.R_after (ok:=(fun k_=>some k_≠(u561000:Value).ownBlock∧some k_≠(u561002:Value).ownBlock)) (by(with_reducible repeat(first|apply rA|apply rN|apply rD));exact Kd.R_mono zi.out (fun _ hk=>⟨⟨hk.1,hk.2.2⟩,hk.2.1⟩)) hg hat);replace HB:=aM (hb);have z0:=aM (ho);clear zf;clear ho hb hg hat;obtain⟨zv,zw,ybh⟩:=Kd.R_slice z0.out;subst ybh;have hcz77:=blk3 zd.out))
 have n0_:Aside0 (Kd.N (Kd.slice 3 (Kd.int .i64)) 22 (w75.setCell ⟨ze,1,none⟩ (.slice zv zs.length zw)) w.heap.size (fun k_=>some k_≠(u561000:Value).ownBlock∧some k_≠(u561002:Value).ownBlock∧some k_≠(.slice (some ⟨yb,0,none⟩) zh.length zy:Value).ownBlock∧some k_≠(.slice zv zs.length zw:Value).ownBlock∧k_≠zo∧k_≠ze) (.slice (some yf) zn.length z8) zn):=⟨by(with_reducible repeat(first|apply Kd.N_alloc|apply Kd.N_drewN|apply Kd.N_drew));exact Kd.N_mono (Kd.N_far (p:=⟨ze,1,none⟩) (Kd.N_mono zj.out (fun k_ hk=>(⟨hk,hk.1.2.2.2.2⟩:_∧k_≠ze))) (fun _ hk=>hk.2) (.slice zv zs.length zw)) (fun _ hk=>⟨hk.1.1.1,⟨hk.1.1.2.1,⟨hk.1.1.2.2.1,⟨hk.1.2,⟨hk.1.1.2.2.2.1,hk.1.1.2.2.2.2⟩⟩⟩⟩⟩)⟩
 have n1_:Aside0 (Kd.R (Kd.int .i64) 3 (w75.setCell ⟨ze,1,none⟩ (.slice zv zs.length zw)) w.heap.size (fun k_=>some k_≠(u561002:Value).ownBlock∧some k_≠(.slice (some ⟨yb,0,none⟩) zh.length zy:Value).ownBlock∧some k_≠(.slice zv zs.length zw:Value).ownBlock) u561000 zl):=⟨by(with_reducible repeat(first|apply rA|apply rN|apply rD));exact Kd.R_mono (Kd.R_far (p:=⟨ze,1,none⟩) (Kd.R_types za.out zd.out (by decide)) (fun _ hk=>hk.2) (.slice zv zs.length zw)) (fun _ hk=>⟨hk.1.1.1,⟨hk.1.1.2,hk.1.2⟩⟩)⟩
 have n2_:Aside0 (Kd.R (Kd.int .i64) 3 (w75.setCell ⟨ze,1,none⟩ (.slice zv zs.length zw)) w.heap.size (fun k_=>some k_≠(u561000:Value).ownBlock∧some k_≠(.slice (some ⟨yb,0,none⟩) zh.length zy:Value).ownBlock∧some k_≠(.slice zv zs.length zw:Value).ownBlock) u561002 zg):=⟨by(with_reducible repeat(first|apply rA|apply rN|apply rD));exact Kd.R_mono (Kd.R_far (p:=⟨ze,1,none⟩) (Kd.R_types zb.out zd.out (by decide)) (fun _ hk=>hk.2) (.slice zv zs.length zw)) (fun _ hk=>⟨hk.1.1.1,⟨hk.1.1.2,hk.1.2⟩⟩)⟩
 have n3_:Aside0 (Kd.V (Kd.int .i64) 3 (w75.setCell ⟨ze,1,none⟩ (.slice zv zs.length zw)) w.heap.size (fun k_=>some k_≠(.slice (some yf) zn.length z8:Value).ownBlock∧some k_≠(u561000:Value).ownBlock∧some k_≠(u561002:Value).ownBlock∧some k_≠(.slice (some ⟨yb,0,none⟩) zh.length zy:Value).ownBlock∧some k_≠(.slice zv zs.length zw:Value).ownBlock∧k_≠zo∧k_≠ze) (.slice yu (rd_L1 zn ya).length yv) (rd_L1 zn ya)):=⟨by(with_reducible repeat(first|apply Kd.V_alloc|apply Kd.V_drewN|apply Kd.V_drew));exact Kd.V_mono (Kd.V_far (p:=⟨ze,1,none⟩) (Kd.V_mono HL567_0.out (fun k_ hk=>(⟨hk,hk.1.2.2.2.2.2⟩:_∧k_≠ze))) (fun _ hk=>hk.2) (.slice zv zs.length zw)) (fun _ hk=>⟨hk.1.1.1,⟨hk.1.1.2.1,⟨hk.1.1.2.2.1,⟨hk.1.1.2.2.2.1,⟨hk.1.2,⟨hk.1.1.2.2.2.2.1,hk.1.1.2.2.2.2.2⟩⟩⟩⟩⟩⟩)⟩
 have n4_:Aside0 (Kd.R (Kd.int .i64) 3 (w75.setCell ⟨ze,1,none⟩ (.slice zv zs.length zw)) w.heap.size (fun k_=>some k_≠(u561000:Value).ownBlock∧some k_≠(u561002:Value).ownBlock∧some k_≠(.slice zv zs.length zw:Value).ownBlock) (.slice (some ⟨yb,0,none⟩) zh.length zy) zad):=⟨by(with_reducible repeat(first|apply rA|apply rN|apply rD));exact Kd.R_mono (Kd.R_far (p:=⟨ze,1,none⟩) (Kd.R_types zi.out zd.out (by decide)) (fun _ hk=>hk.2) (.slice zv zs.length zw)) (fun _ hk=>⟨hk.1.1.1,⟨hk.1.1.2,hk.1.2⟩⟩)⟩
 have n5_:Aside0 (Kd.R (Kd.int .i64) 3 (w75.setCell ⟨ze,1,none⟩ (.slice zv zs.length zw)) w.heap.size (fun k_=>some k_≠(u561000:Value).ownBlock∧some k_≠(u561002:Value).ownBlock∧some k_≠(.slice (some ⟨yb,0,none⟩) zh.length zy:Value).ownBlock) (.slice zv zs.length zw) zs):=⟨by(with_reducible repeat(first|apply rA|apply rN|apply rD));exact Kd.R_mono (Kd.R_far (p:=⟨ze,1,none⟩) (Kd.R_types z0.out zd.out (by decide)) (fun _ hk=>hk.2) (.slice zv zs.length zw)) (fun _ hk=>⟨hk.1.1,⟨hk.1.2.1,hk.1.2.2⟩⟩)⟩
 have n6_:Aside0 ((w75.setCell ⟨ze,1,none⟩ (.slice zv zs.length zw)).heap[zo]?=some (.cells #[.slice none 0 0,.slice none 0 0,.slice none 0 0] 32 (0,0))):=⟨by(with_reducible repeat(first|apply bN|apply bD|apply bA));refine blk_far ?_ zp.out _;(with_reducible repeat(first|apply bN|apply bD|apply bA));exact zc.out⟩
 have n7_:Aside0 ((w75.setCell ⟨ze,1,none⟩ (.slice zv zs.length zw)).heap[ze]?=some (.cells #[u561000,.slice zv zs.length zw,u561002] 32 (0,0))):=⟨by(with_reducible repeat(first|apply bN|apply bD|apply bA));refine blk_put (cs:=#[u561000,u561001,u561002]) ?_ 1 _ rfl;(with_reducible repeat(first|apply bN|apply bD|apply bA));exact zd.out⟩
 have n8_:Aside0 (Below w.heap.size w (w75.setCell ⟨ze,1,none⟩ (.slice zv zs.length zw))):=⟨qB2 HB zm zq⟩
 (try clear zj)
 (try clear za)
 (try clear zb)
 (try clear HL567_0)
 (try clear zi)
 (try clear z0)
 (try clear zc)
 (try clear zd)
 (try clear HB)
 generalize (w75.setCell ⟨ze,1,none⟩ (.slice zv zs.length zw))=w78 at n0_ n1_ n2_ n3_ n4_ n5_ n6_ n7_ n8_ ⊢
 have zj:=n0_
 have za:=n1_
 have zb:=n2_
 have HL567_0:=n3_
 have zi:=n4_
 have z0:=n5_
 have zc:=n6_
 have zd:=n7_
 have HB:=n8_
 clear n0_ n1_ n2_ n3_ n4_ n5_ n6_ n7_ n8_
 replace zj:=aM (Kd.N_drew zj.out)
 replace za:=aM (Kd.R_drew za.out)
 replace zb:=aM (Kd.R_drew zb.out)
 replace HL567_0:=aM (Kd.V_drew HL567_0.out)
 replace zi:=aM (Kd.R_drew zi.out)
 replace z0:=aM (Kd.R_drew z0.out)
 replace zc:=aM (blk_drew zc.out)
 replace zd:=aM (blk_drew zd.out)
 replace HB:=aM (below_drew1 HB.out)
 refine sT 9 [8] (fun w'=>w'.cell? ⟨ze,0,none⟩=some (u561000)∧w'.cell? ⟨ze,1,none⟩=some (.slice zv zs.length zw)∧w'.cell? ⟨ze,2,none⟩=some (u561002)) fbh.tab25 fbh.bits25 (h3 zd) (fun hHeld HT_ HW_=>?_)
 generalize w78.drew=w79 at zj za zb HL567_0 zi z0 zc zd HB hHeld ⊢
 refine pQ 0 124 9 1 HT_ ?_
 refine pQ 2 126 9 5 HT_ ?_
 refine pQ 3 127 9 13 HT_ ?_
 refine pU3 1 125 9 15 HT_ HW_ hHeld ?_
 refine oN 4 128 9 31 HT_ (fun K hK=>?_)
 refine goes_ Try.func64 (by kernel_rfl) rfl #[.slice (some y2) l1.length c1,.slice (some ⟨yb,0,none⟩) zad.length zy] (by rfl) rfl rfl (by(try simp only[List.map_toArray,List.map_cons,List.map_nil]);first|done|(rw[show zad.length=zh.length from (Kd.R_reads' zi.out).1.symm] <;> rfl)|rfl|(simp only[List.length_drop,List.length_take];rfl)) ?_
 with_reducible refine(fao.calls k3 _ _ l1 _ _ zad z5 _ ?s1 HC1.out ?s3 ?s4 A63.out).mono ?_
 (case s1=>exact sC HR1 HB)
 (case s3=>exact sR zi)
 (case s4=>rw[show zad.length=zh.length from (Kd.R_reads' zi.out).1.symm];exact sL zi)
 rintro e w80 ⟨rfl,hb⟩
 refine⟨_,rfl,?_⟩
 replace zj:=aM (Kd.N_below (by(with_reducible repeat(first|apply Kd.N_alloc|apply Kd.N_drewN|apply Kd.N_drew));exact zj.out) hb)
 replace za:=bR za hb
 replace zb:=bR zb hb
 replace HL567_0:=aM (Kd.V_below (pV HL567_0.out) hb)
 replace zi:=bR zi hb
 replace z0:=bR z0 hb
 replace zc:=bK zc hb
 replace zd:=bK zd hb
 replace HB:=bS (qB2 HB zm zq) hb
 refine hK.out _ _ (h3 zd) (fun hHeld=>?_)
 clear hK K
 refine nM 128 ?_
 refine oN 5 129 9 63 HT_ (fun K hK=>?_)
 refine value_ (w1:=?_) (v:=?_) (by rfl) rfl ?_ ?_
 rotate_left 2
 ·go_simp
  constructor
  ·rfl
  ·rfl
 refine hK.out _ _ ⟨(blk_cell (blk_alloc zd.out _) 0).trans rfl,(blk_cell (blk_alloc zd.out _) 1).trans rfl,(blk_cell (blk_alloc zd.out _) 2).trans rfl⟩ (fun hHeld=>?_)
 clear hK K
 refine nM 129 ?_
 refine oN 6 130 9 127 HT_ (fun K hK=>?_)
 refine Kd.R_append_step (Kd.int .i64) (w0:=w) w.heap.size (by rfl) (.tmp 125) (.tmp 129) 22 3 (.int .i64 0) 8 rfl Try.underlying22 info3 rfl (by decide) (by omega) u561002 zg z5 [.int .i64 z5] (fun k_=>some k_≠(u561000:Value).ownBlock∧some k_≠(.slice (some ⟨yb,0,none⟩) zh.length zy:Value).ownBlock∧some k_≠(.slice zv zs.length zw:Value).ownBlock) (fun _=>False) rfl rfl ?aP (fun _ hk=>hk.elim) ?aF ?aO ?aB ?aS ?aL ?_
 (case aP=>exact rfl)
 (case aB=>exact(qB2 HB zm zq))
 (case aF=>exact(fun k_ hk=>⟨Kd.fresh' (Kd.R_lt (pR za.out)) k_ hk,Kd.fresh' (Kd.R_lt (pR zi.out)) k_ hk,Kd.fresh' (Kd.R_lt (pR z0.out)) k_ hk⟩))
 (case aO=>exact(pR zb.out))
 (case aS=>exact(below_size (qB2 HB zm zq)))
 (case aL=>have:=LMc64.out;omega)
 intro v588 w81 ho hb hg hat
 rw[← Ny587.out] at ho
 replace zj:=aM (Kd.N_afterv (ok:=(fun k_=>some k_≠(u561000:Value).ownBlock∧some k_≠(.slice (some ⟨yb,0,none⟩) zh.length zy:Value).ownBlock∧some k_≠(.slice zv zs.length zw:Value).ownBlock∧k_≠zo∧k_≠ze)) (by(with_reducible repeat(first|apply Kd.N_alloc|apply Kd.N_drewN|apply Kd.N_drew));exact Kd.N_mono zj.out (fun _ hk=>⟨⟨hk.1,⟨hk.2.2.1,⟨hk.2.2.2.1,⟨hk.2.2.2.2.1,hk.2.2.2.2.2⟩⟩⟩⟩,hk.2.1⟩)) hg hat)
 replace za:=aM (Kd.R_after (ok:=(fun k_=>some k_≠(.slice (some ⟨yb,0,none⟩) zh.length zy:Value).ownBlock∧some k_≠(.slice zv zs.length zw:Value).ownBlock)) (by(with_reducible repeat(first|apply rA|apply rN|apply rD));exact Kd.R_mono za.out (fun _ hk=>⟨⟨hk.2.1,hk.2.2⟩,hk.1⟩)) hg hat)
 replace zc:=aM (blk_grown (g:=zo) (pK zc.out) hg (Kd.R_ne zb.out zc.out (by decide)))
 replace zd:=aM (blk_grown (g:=ze) (pK zd.out) hg (Kd.R_ne zb.out zd.out (by decide)))
 replace HL567_0:=aM (Kd.V_afterv (ok:=(fun k_=>some k_≠(.slice (some yf) zn.length z8:Value).ownBlock∧some k_≠(u561000:Value).ownBlock∧some k_≠(.slice (some ⟨yb,0,none⟩) zh.length zy:Value).ownBlock∧some k_≠(.slice zv zs.length zw:Value).ownBlock∧k_≠zo∧k_≠ze)) (by(with_reducible repeat(first|apply Kd.V_alloc|apply Kd.V_drewN|apply Kd.V_drew));exact Kd.V_mono HL567_0.out (fun _ hk=>⟨⟨hk.1,⟨hk.2.1,⟨hk.2.2.2.1,⟨hk.2.2.2.2.1,⟨hk.2.2.2.2.2.1,hk.2.2.2.2.2.2⟩⟩⟩⟩⟩,hk.2.2.1⟩)) hg hat)
 replace zi:=aM (Kd.R_after (ok:=(fun k_=>some k_≠(u561000:Value).ownBlock∧some k_≠(.slice zv zs.length zw:Value).ownBlock)) (by(with_reducible repeat(first|apply rA|apply rN|apply rD));exact Kd.R_mono zi.out (fun _ hk=>⟨⟨hk.1,hk.2.2⟩,hk.2.1⟩)) hg hat)
 replace z0:=aM (Kd.R_after (ok:=(fun k_=>some k_≠(u561000:Value).ownBlock∧some k_≠(.slice (some ⟨yb,0,none⟩) zh.length zy:Value).ownBlock)) (by(with_reducible repeat(first|apply rA|apply rN|apply rD));exact Kd.R_mono z0.out (fun _ hk=>⟨⟨hk.1,hk.2.2⟩,hk.2.1⟩)) hg hat)
 replace HB:=aM (hb)
 have za3:=aM (ho)
 clear zb
 clear ho hb hg hat
 obtain⟨zau,zav,zbh⟩:=Kd.R_slice za3.out
 (first|subst zbh|(injection zbh with f1_ f2_ f3_;have f4_:=f1_.symm;have f5_:=f3_.symm;clear f1_ f2_ f3_;subst f4_;subst f5_))
 refine hK.out _ _ (h3 zd) (fun hHeld=>?_)
 clear hK K
 refine nM 130 ?_
 refine pQ 7 131 9 255 HT_ ?_
 refine last_ (i:=8) (N:=none) (bm 9 511) rfl rfl (one_of HT_.out (by kernel_rfl)) (by decide) (fun K hK=>?_)
 have hs83:w81.cell? ⟨ze,2,none⟩=some (u561002):=(blk_cell zd.out 2).trans rfl
 have hfs83:=blk_frozen zd.out 2
 have hns83_0:=zp.out
 have hms83_0:=zx.out
 refine skip_ (w1:=?_) (by rfl) rfl ?_ ?_
 rotate_left
 ·go_simp
  rfl
 refine hK.out _ _ ?_
 clear hK K
 refine dN HT_ ?_
 try go_wp2
 go_roundg k3
 case measure=>have:=HJ3.out;have:=HK2.out;have:=HK3.out;omega
 case rel=>exact⟨(wrap64 (ya+1)),(zl),(zs),(zag),(u561000),(.slice zv zs.length zw),(.slice zau zag.length zav),(pF),H',⟨by have:=HJ3.out;have:=HK2.out;have:=HK3.out;omega⟩,⟨by(with_reducible repeat(first|apply Kd.N_alloc|apply Kd.N_drewN|apply Kd.N_drew));exact Kd.N_mono (Kd.N_far (p:=⟨ze,2,none⟩) (Kd.N_mono zj.out (fun k_ hk=>(⟨hk,hk.1.2.2.2.2⟩:_∧k_≠ze))) (fun _ hk=>hk.2) (.slice zau zag.length zav)) (fun _ hk=>⟨hk.1.1.1,⟨hk.1.1.2.2.1,⟨hk.1.2,⟨hk.1.1.2.2.2.1,hk.1.1.2.2.2.2⟩⟩⟩⟩)⟩,⟨by(with_reducible repeat(first|apply rA|apply rN|apply rD));exact Kd.R_mono (Kd.R_far (p:=⟨ze,2,none⟩) (Kd.R_types za.out zd.out (by decide)) (fun _ hk=>hk.2) (.slice zau zag.length zav)) (fun _ hk=>⟨hk.1.1.2,hk.1.2⟩)⟩,⟨by(with_reducible repeat(first|apply rA|apply rN|apply rD));exact Kd.R_mono (Kd.R_far (p:=⟨ze,2,none⟩) (Kd.R_types z0.out zd.out (by decide)) (fun _ hk=>hk.2) (.slice zau zag.length zav)) (fun _ hk=>⟨hk.1.1.1,hk.1.2⟩)⟩,⟨by(with_reducible repeat(first|apply rA|apply rN|apply rD));exact Kd.R_mono (Kd.R_far (p:=⟨ze,2,none⟩) (Kd.R_types za3.out zd.out (by decide)) (fun _ hk=>hk.2) (.slice zau zag.length zav)) (fun _ hk=>⟨hk.1.1,hk.1.2.2⟩)⟩,⟨by(with_reducible repeat(first|apply bN|apply bD|apply bA));refine blk_far ?_ zp.out _;(with_reducible repeat(first|apply bN|apply bD|apply bA));exact zc.out⟩,⟨by(with_reducible repeat(first|apply bN|apply bD|apply bA));refine blk_put (cs:=#[u561000,.slice zv zs.length zw,u561002]) ?_ 2 _ rfl;(with_reducible repeat(first|apply bN|apply bD|apply bA));exact zd.out⟩,⟨qB2 HB zm zq⟩⟩
end Go.Proofs.Ytcdiobcldhiemaa.Q
