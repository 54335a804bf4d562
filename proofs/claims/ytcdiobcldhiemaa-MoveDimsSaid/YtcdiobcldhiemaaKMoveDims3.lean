/- Texts of the proof of MoveDims, part 3: what functions of the program compute, and that they compute it. -/
import Derived.Test.YtcdiobcldhiemaaKMoveDimsW
import Derived.Test.YtcdiobcldhiemaaKMoveDims2
set_option maxHeartbeats 8000000
set_option maxRecDepth 100000
namespace Go.Proofs.Ytcdiobcldhiemaa.Q
open Go.RowKit Go.Proofs.YtcdiobcldhiemaaW.PrintWords Go.Proofs.YtcdiobcldhiemaaW.PrintLast Go.Proofs.YtcdiobcldhiemaaW.PrintMore
attribute [local go_sem] max2_int min2_int max_two min_two max_three min_three max_four min_four   -- for this text's walks alone
set_option linter.unusedVariables false
set_option linter.unusedSimpArgs false
mutual
def fav.l0:Nat→List Int→List Int→List Int→List (List Int)→List Int→Int→Int→Option (List Int×List Int×Int)
 | 0,_,_,_,_,_,_,_=>none
 | k + 1,x0,x1,x7,x9,x10,x26,x27=>if x27 < x26 then(if 0≤(x0.length:Int)then(if((x0.length:Int):Int).toNat≤35184372088832 then(fav.l1 k x0 x1 x7 x9 x10 x27 (List.replicate ((x0.length:Int):Int).toNat 0) x26 x27 (x1.length:Int) 0)else(none))else(none))else(some (x7,x10,0))
def fav.l1:Nat→List Int→List Int→List Int→List (List Int)→List Int→Int→List Int→Int→Int→Int→Int→Option (List Int×List Int×Int)
 | 0,_,_,_,_,_,_,_,_,_,_,_=>none
 | k + 1,x0,x1,x7,x9,x10,x11,x12,x26,x27,x34,x35=>if x35 < x34 then(if 0≤x35 then(if x35 < (x1.length:Int)then(if 0≤x11 then(if x11 < (x9.length:Int)then(if x35 < ((rd_L1 x9 x11).length:Int)then(if 0≤(rd x1 x35)then(if(rd x1 x35) < (x12.length:Int)then(fav.l1 k x0 x1 x7 x9 x10 x11 (x12.set ((rd x1 x35):Int).toNat (rd (rd_L1 x9 x11) x35)) x26 x27 x34 (wrap64 (x35 + 1)))else(none))else(none))else(none))else(none))else(none))else(none))else(none))else((fba.f k x0 x12).bind fun zk=>(if x10.length < 17592186044416 then(fav.l0 k x0 x1 x7 x9 (x10 ++ [zk]) x26 (wrap64 (x27 + 1)))else(none)))
end
def fav.f (k:Nat) (l0:List Int) (l1:List Int):Option (List Int×List Int×Int):=(faj.f k l0 l1).bind fun bt630=>(if bt630.2=0 then((fam.f k bt630.1).bind fun za=>(fav.l0 k l0 l1 bt630.1 za ([]:List Int) (za.length:Int) 0))else(some (([]:List Int),([]:List Int),bt630.2)))
def fav.T13:TT:=(true,[([],[]),([],[]),([],[]),([1,2],[1,2]),([3],[3]),([],[]),([],[]),([5,6],[5,6]),([7],[7]),([],[]),([8,9],[8,9]),([10],[10]),([0,4,0,1,2,3,4,5,6,7,8,9,10,11],[0,4]),([12,11,0,1,2,3,4,5,6,7,8,9,10,11],[11,12])])
def fav.B13:List Nat:=[0,0,0,6,14,0,0,96,224,0,992,2016,4095,8191]
theorem fav.tab13:rtab .any (opsOf Try.f84 13)=fav.T13:=by kernel_rfl
theorem fav.bits13:waitsOk fav.T13.2 fav.B13=true:=by kernel_rfl
theorem fav.calls (k:Nat)(A0:Option Addr)(c0:Nat)(l0:List Int)(A1:Option Addr)(c1:Nat)(l1:List Int)(r1:List Int)(r2:List Int) (r3:Int)(w:World)(hr0:Kd.C (Kd.int .i64) w A0 l0.length l0)(hc0:l0.length≤c0)(hr1:Kd.C (Kd.int .i64) w A1 l1.length l1)(hc1:l1.length≤c1)(h:fav.f k l0 l1=some (r1,r2,r3)) :
  Calls Try.prog 84 #[.slice A0 l0.length c0,.slice A1 l1.length c1] w fun e w'=>∃ v0_ v1_:Value,e=.returned (.tuple #[v0_,v1_,.int .i64 r3])∧Kd.R (Kd.int .i64) 3 w' w.heap.size (fun k_=>some k_≠(v1_:Value).ownBlock) v0_ r1∧Kd.R (Kd.int .i64) 3 w' w.heap.size (fun k_=>some k_≠(v0_:Value).ownBlock) v1_ r2∧Below w.heap.size w w':=by
 have HR0:=aM hr0
 have HC0:=aM hc0
 clear hr0 hc0
 have HR1:=aM hr1
 have HC1:=aM hc1
 clear hr1 hc1
 have HB:=aM (Below.refl w.heap.size w)
 have H:((faj.f k l0 l1).bind fun bt630=>(if bt630.2=0 then((fam.f k bt630.1).bind fun za=>(fav.l0 k l0 l1 bt630.1 za ([]:List Int) (za.length:Int) 0))else(some (([]:List Int),([]:List Int),bt630.2))))=some (r1,r2,r3):=h
 clear h
 replace H:=oB H
 obtain⟨⟨zg,zi⟩,A30,H⟩:=H
 try dsimp only at H
 have A3:=aM A30
 clear A30
 by_cases c4:zi=0
 rotate_left
 ·rw [iN c4] at H
  have zw:=bF c4
  have zx:=nT c4
  replace H:=oi3 H
  obtain⟨rfl,rfl,rfl⟩:=H
  go_enter Try.func84,Try.ntmps84
  go_wp2_with (first|((with_reducible refine gC 94 rfl ?_);refine gL 17 Try.func94 #[.slice A0 l0.length c0,.slice A1 l1.length c1] ?_;(with_reducible refine(faj.calls k _ _ l0 _ _ l1 zg zi _ ?s1 HC0.out ?s3 HC1.out A3.out).mono ?_);(case s1=>exact pC HR0.out);(case s3=>exact pC HR1.out);rintro e w30 ⟨v632,rfl,ho0,hb⟩;refine⟨_,rfl,?_⟩;have zf:=aM (Kd.R_lower ho0 (below_size (qB HB)));replace HB:=bS (qB HB) hb;(try clear hb);(try clear hk);(try clear hi);(try clear ho0)))
  go_ret3
  exact⟨_,_,pE,pN,pN,qB HB⟩
 rw [ip c4] at H
 have zw:=bT c4
 have zx:=nF c4
 clear c4
 replace H:=oB H
 obtain⟨za,A50,H⟩:=H
 try dsimp only at H
 have A5:=aM A50
 clear A50
 have H':=aM H
 clear H
 go_enter Try.func84,Try.ntmps84
 go_wp2_with (first|((with_reducible refine gC 94 rfl ?_);refine gL 17 Try.func94 #[.slice A0 l0.length c0,.slice A1 l1.length c1] ?_;(with_reducible refine(faj.calls k _ _ l0 _ _ l1 zg zi _ ?s1 HC0.out ?s3 HC1.out A3.out).mono ?_);(case s1=>exact pC HR0.out);(case s3=>exact pC HR1.out);rintro e w6 ⟨v632,rfl,ho0,hb⟩;refine⟨_,rfl,?_⟩;have zf:=aM (Kd.R_lower ho0 (below_size (qB HB)));replace HB:=bS (qB HB) hb;(try clear hb);(try clear hk);(try clear hi);(try clear ho0);obtain⟨Ao7,co7,eo7⟩:=Kd.R_slice zf.out;subst eo7)|((with_reducible refine gC 48 rfl ?_);refine gL 24 Try.func48 #[.slice Ao7 zg.length co7] ?_;(with_reducible refine(fam.calls k _ _ zg za _ ?s1 ?s2 A5.out).mono ?_);(case s1=>exact sR zf);(case s2=>exact sL zf);rintro e w8 ⟨v635,rfl,ho0,hb⟩;refine⟨_,rfl,?_⟩;have zs:=aM (Kd.N_lower (Kd.N_mono (ok':=fun k_=>some k_≠(.slice Ao7 zg.length co7:Value).ownBlock) ho0 (fun k_ hk_=>(Kd.fresh' (Kd.R_lt (pR zf.out)) k_ hk_))) (below_size (qB HB)));replace zf:=bR zf hb;replace HB:=bS (qB HB) hb;(try clear hb);(try clear hk);(try clear hi);(try clear ho0);obtain⟨Ao9,co9,eo9⟩:=Kd.N_slice zs.out;subst eo9))
 go_loopg [10,27] k (fun kq v10 v27 w'=>∃ (ye:List Int) (yf:List Int) (yb:Int),v27=.int .i64 yb∧Aside0 (fav.l0 kq l0 l1 ye za yf (za.length:Int) yb=some (r1,r2,r3))∧Aside0 (kq≤k)∧Aside0 (Kd.R (Kd.int .i64) 3 w' w.heap.size (fun k_=>some k_≠(v10:Value).ownBlock) (.slice Ao7 zg.length co7) ye)∧Aside0 (Kd.N (Kd.slice 3 (Kd.int .i64)) 22 w' w.heap.size (fun k_=>some k_≠((.slice Ao7 zg.length co7):Value).ownBlock∧some k_≠(v10:Value).ownBlock) (.slice Ao9 za.length co9) za)∧Aside0 (Kd.R (Kd.int .i64) 3 w' w.heap.size (fun k_=>some k_≠((.slice Ao7 zg.length co7):Value).ownBlock) v10 yf)∧Aside0 (Below w.heap.size w w'))
 case atStart=>exact⟨(zg),(([]:List Int)),(0),(pF),H',⟨Nat.le_refl _⟩,⟨by(with_reducible repeat(first|apply rA|apply rN|apply rD));exact Kd.R_mono zf.out (fun _ hk=>(by simp [Value.ownBlock]))⟩,⟨by(with_reducible repeat(first|apply Kd.N_alloc|apply Kd.N_drewN|apply Kd.N_drew));exact Kd.N_mono zs.out (fun _ hk=>⟨hk,(by simp [Value.ownBlock])⟩)⟩,⟨pN⟩,⟨qB HB⟩⟩
 clear H'
 try clear c1
 try clear zw
 try clear zx
 obtain⟨ye,yf,yb,rfl,HA,HK1,zd,ze,zb,HB⟩:=hrel
 have yc:=(Kd.R_reads' zd.out).1
 rw [yc] at zd
 (try simp only [yc])
 (try simp only [yc] at ze)
 (try simp only [yc] at zb)
 cases gk with
 | zero=>exact absurd HA.out (by simp [fav.l0])
 | succ k1=>?_
 have H:=HA.out
 clear HA
 simp only [fav.l0] at H
 by_cases c10:yb < (za.length:Int)
 rotate_left
 ·rw [iN c10] at H
  have zj:=dF c10
  (try simp only [yc] at zj)
  clear c10
  replace H:=oi3 H
  obtain⟨rfl,rfl,rfl⟩:=H
  go_wp2
  go_ret3
  exact⟨_,_,pE,pR zd.out,pR zb.out,qB HB⟩
 rw [ip c10] at H
 have zj:=dT c10
 (try simp only [yc] at zj)
 clear c10
 by_cases c11:0≤(l0.length:Int)
 rotate_left
 ·rw [iN c11] at H
  cases H
 rw [ip c11] at H
 have yt:=eq_true c11
 have zt:=dT c11
 (try simp only [yc] at zt)
 clear c11
 by_cases c12:((l0.length:Int):Int).toNat≤35184372088832
 rotate_left
 ·rw [iN c12] at H
  cases H
 rw [ip c12] at H
 have yu:=eq_true c12
 have zu:=dT c12
 (try simp only [yc] at zu)
 clear c12
 obtain⟨zy,zl⟩:∃ y_:List Int,y_=(List.replicate ((l0.length:Int):Int).toNat 0):=⟨_,rfl⟩
 replace H:(fav.l1 k1 l0 l1 ye za yf yb zy (za.length:Int) yb (l1.length:Int) 0)=some (r1,r2,r3):=pH zl H
 have zv:=aM zl
 clear zl
 have H':=aM H
 clear H
 go_wp2_with (first|((with_reducible refine gD 32 rfl ?_);refine Kd.R_make (Kd.int .i64) _ 3 rfl (N:=32) rfl 22 _ _ rfl (l0.length:Int) rfl rfl Try.underlying22 (.int .i64 0) 8 info3 rfl (by decide) (by omega) 0 (ok:=fun _=>True) (okp:=fun _=>True) rfl (fun _ hk=>hk) trivial (of_decide_eq_true pD) (Nat.le_trans (Nat.mul_le_mul_right _ (of_decide_eq_true pD:(l0.length:Int).toNat≤35184372088832)) (by omega)) (Below.refl _ _) (Nat.le_refl _) ?_;intro zp w13 ho14 hb hg_ hnew_;clear hg_ hnew_;(first|rw [← zv.out] at ho14|(simp only [Int.reduceToNat] at ho14;rw [← zv.out] at ho14));replace ze:=aM (Kd.N_elder' (by(with_reducible repeat(first|apply Kd.N_alloc|apply Kd.N_drewN|apply Kd.N_drew));exact ze.out) (Kd.R_base ho14) hb);have HO639:=aM (Kd.R_lower (Kd.R_new' (Kd.R_new' ho14 (Kd.R_lt (pR zd.out))) (Kd.R_lt (pR zb.out))) (below_size (qB HB)));replace zd:=eR zd ho14 hb;replace zb:=eR zb ho14 hb;replace HB:=bS (qB HB) hb;clear hb ho14))
 go_loopg [35] k1 (fun kq v35 w'=>∃ (yd:List Int) (ya:Int),v35=.int .i64 ya∧Aside0 (fav.l1 kq l0 l1 ye za yf yb yd (za.length:Int) yb (l1.length:Int) ya=some (r1,r2,r3))∧Aside0 (kq≤k1)∧Aside0 (Kd.R (Kd.int .i64) 3 w' w.heap.size (fun k_=>some k_≠(u10:Value).ownBlock∧some k_≠(zp:Value).ownBlock) (.slice Ao7 ye.length co7) ye)∧Aside0 (Kd.N (Kd.slice 3 (Kd.int .i64)) 22 w' w.heap.size (fun k_=>some k_≠((.slice Ao7 ye.length co7):Value).ownBlock∧some k_≠(u10:Value).ownBlock∧some k_≠(zp:Value).ownBlock) (.slice Ao9 za.length co9) za)∧Aside0 (Kd.R (Kd.int .i64) 3 w' w.heap.size (fun k_=>some k_≠((.slice Ao7 ye.length co7):Value).ownBlock∧some k_≠(zp:Value).ownBlock) u10 yf)∧Aside0 (Kd.R (Kd.int .i64) 3 w' w.heap.size (fun k_=>some k_≠((.slice Ao7 ye.length co7):Value).ownBlock∧some k_≠(u10:Value).ownBlock) zp yd)∧Aside0 (Below w.heap.size w w'))
 case atStart=>exact⟨(zy),(0),(pF),H',⟨Nat.le_refl _⟩,⟨by(try simp only [yc]);(with_reducible repeat(first|apply rA|apply rN|apply rD));exact zd.out⟩,⟨by(try simp only [yc]);(with_reducible repeat(first|apply Kd.N_alloc|apply Kd.N_drewN|apply Kd.N_drew));exact Kd.N_mono ze.out (fun _ hk=>⟨hk.1.1,⟨hk.1.2,hk.2⟩⟩)⟩,⟨by(try simp only [yc]);(with_reducible repeat(first|apply rA|apply rN|apply rD));exact zb.out⟩,⟨by(try simp only [yc]);(with_reducible repeat(first|apply rA|apply rN|apply rD));exact Kd.R_mono HO639.out (fun _ hk=>⟨hk.1.2,hk.2⟩)⟩,⟨qB HB⟩⟩
 clear H'
 try clear zj
 try clear yt
 try clear zt
 try clear yu
 try clear zu
 obtain⟨yd,ya,rfl,HA,HK2,zd,ze,zb,zc,HB⟩:=hrel
 cases gk with
 | zero=>exact absurd HA.out (by simp [fav.l1])
 | succ k2=>?_
 have H:=HA.out
 clear HA
 simp only [fav.l1] at H
 by_cases c15:ya < (l1.length:Int)
 rotate_left
 ·rw [iN c15] at H
  have zm:=dF c15
  (try simp only [yc] at zm)
  clear c15
  replace H:=oB H
  obtain⟨zk,zz,H⟩:=H
  try dsimp only at H
  have A26:=aM zz
  clear zz
  by_cases c27:yf.length < 17592186044416
  rotate_left
  ·rw [iN c27] at H
   cases H
  rw [ip c27] at H
  have LMc27:=aM c27
  clear c27
  obtain⟨z0,zn⟩:∃ y_:List Int,y_=(yf ++ [zk]):=⟨_,rfl⟩
  replace H:(fav.l0 k2 l0 l1 ye za z0 (za.length:Int) (wrap64 (yb + 1)))=some (r1,r2,r3):=pH zn H
  have Ny645:=aM zn
  clear zn
  have H':=aM H
  clear H
  obtain⟨zq,zr,y3⟩:=Kd.R_slice zc.out
  subst y3
  go_wp2_with (first|((with_reducible refine gC 88 rfl ?_);refine gL 55 Try.func88 #[.slice A0 l0.length c0,.slice zq yd.length zr] ?_;(with_reducible refine(fba.calls k2 _ _ l0 _ _ yd zk _ ?s1 HC0.out ?s3 ?s4 A26.out).mono ?_);(case s1=>exact sC HR0 HB);(case s3=>exact sR zc);(case s4=>exact sL zc);rintro e w' ⟨rfl,⟨nd,rfl⟩⟩;refine⟨_,rfl,?_⟩)|((with_reducible refine gate_builtin (b:=.append) (xs:=#[.tmp 52,.tmp 56]) rfl ?_);at_builtin;refine Kd.R_append (Kd.int .i64) (w0:=w) w.heap.size rfl (.tmp 52) (.tmp 56) 22 3 (.int .i64 0) 8 rfl Try.underlying22 info3 rfl (by decide) (by omega) u10 yf zk [.int .i64 zk] (fun k_=>some k_≠(.slice Ao7 ye.length co7:Value).ownBlock∧some k_≠(.slice zq yd.length zr:Value).ownBlock) (fun _=>False) rfl rfl ?aP (fun _ hk=>hk.elim) ?aF ?aO ?aB ?aS ?aL ?_;(case aP=>exact rfl);(case aB=>exact(qB HB));(case aF=>exact(fun k_ hk=>⟨Kd.fresh' (Kd.R_lt (pR zd.out)) k_ hk,Kd.fresh' (Kd.R_lt (pR zc.out)) k_ hk⟩));(case aO=>exact(pR zb.out));(case aS=>exact(below_size (qB HB)));(case aL=>have:=LMc27.out;omega);intro v646 w29 ho hb hg hat;rw [← Ny645.out] at ho;replace zd:=aM (Kd.R_after (ok:=(fun k_=>some k_≠(.slice zq yd.length zr:Value).ownBlock)) (by(with_reducible repeat(first|apply rA|apply rN|apply rD));exact Kd.R_mono zd.out (fun _ hk=>⟨hk.2,hk.1⟩)) hg hat);replace ze:=aM (Kd.N_afterv (ok:=(fun k_=>some k_≠(.slice Ao7 ye.length co7:Value).ownBlock∧some k_≠(.slice zq yd.length zr:Value).ownBlock)) (by(with_reducible repeat(first|apply Kd.N_alloc|apply Kd.N_drewN|apply Kd.N_drew));exact Kd.N_mono ze.out (fun _ hk=>⟨⟨hk.1,hk.2.2⟩,hk.2.1⟩)) hg hat);replace zc:=aM (Kd.R_after (ok:=(fun k_=>some k_≠(.slice Ao7 ye.length co7:Value).ownBlock)) (pR zc.out) hg hat);replace HB:=aM (hb);have HO647:=aM (ho);clear zb;clear ho hb hg hat))
  (try simp only [← yc])
  go_roundg k2
  case measure=>have:=HK1.out;have:=HK2.out;omega
  case rel=>exact⟨(ye),(z0),(wrap64 (yb + 1)),(pF),H',⟨pO2 HK1 HK2⟩,⟨by(try simp only [yc]);(with_reducible repeat(first|apply rA|apply rN|apply rD));exact Kd.R_mono zd.out (fun _ hk=>hk.2)⟩,⟨by(try simp only [yc]);(with_reducible repeat(first|apply Kd.N_alloc|apply Kd.N_drewN|apply Kd.N_drew));exact Kd.N_mono ze.out (fun _ hk=>⟨hk.1.1,hk.2⟩)⟩,⟨by(try simp only [yc]);(with_reducible repeat(first|apply rA|apply rN|apply rD));exact Kd.R_mono HO647.out (fun _ hk=>hk.1)⟩,⟨qB HB⟩⟩
 rw [ip c15] at H
 have zm:=dT c15
 (try simp only [yc] at zm)
 clear c15
 by_cases c16:0≤ya
 rotate_left
 ·rw [iN c16] at H
  cases H
 rw [ip c16] at H
 have c16b0:=dT c16
 clear c16
 by_cases c17:ya < (l1.length:Int)
 rotate_left
 ·rw [iN c17] at H
  cases H
 rw [ip c17] at H
 have yv:=dT c17
 (try simp only [yc] at yv)
 clear c17
 by_cases c18:0≤yb
 rotate_left
 ·rw [iN c18] at H
  cases H
 rw [ip c18] at H
 have c18b0:=dT c18
 clear c18
 by_cases c19:yb < (za.length:Int)
 rotate_left
 ·rw [iN c19] at H
  cases H
 rw [ip c19] at H
 have yw:=dT c19
 (try simp only [yc] at yw)
 clear c19
 by_cases c20:ya < ((rd_L1 za yb).length:Int)
 rotate_left
 ·rw [iN c20] at H
  cases H
 rw [ip c20] at H
 have yx:=dT c20
 (try simp only [yc] at yx)
 clear c20
 by_cases c21:0≤(rd l1 ya)
 rotate_left
 ·rw [iN c21] at H
  cases H
 rw [ip c21] at H
 have c21b0:=dT c21
 clear c21
 by_cases c22:(rd l1 ya) < (yd.length:Int)
 rotate_left
 ·rw [iN c22] at H
  cases H
 rw [ip c22] at H
 have yy:=dT c22
 (try simp only [yc] at yy)
 clear c22
 obtain⟨z1,zo⟩:∃ y_:List Int,y_=(yd.set ((rd l1 ya):Int).toNat (rd (rd_L1 za yb) ya)):=⟨_,rfl⟩
 replace H:(fav.l1 k2 l0 l1 ye za yf yb z1 (za.length:Int) yb (l1.length:Int) (wrap64 (ya + 1)))=some (r1,r2,r3):=pH zo H
 have Ny643:=aM zo
 clear zo
 have H':=aM H
 clear H
 try go_wp2
 replace zd:=aM (Kd.R_drew zd.out)
 replace ze:=aM (Kd.N_drew ze.out)
 replace zb:=aM (Kd.R_drew zb.out)
 replace zc:=aM (Kd.R_drew zc.out)
 replace HB:=aM (below_drew1 HB.out)
 obtain⟨yz,⟨⟩,yh,p640,q640⟩:=zI HR1.out ya
 have yn:=zW HB yh
 have y0:0≤(yb:Int):=oD
 have y1:yb < (za.length:Int):=oD
 obtain⟨y2,A641_0,yp,y4,yg,yi,yj⟩:=at_L1 (Kd.N_reads' ze.out).2.2 yb y0 y1
 cases y4
 obtain⟨ce641,yq,yr,ym⟩:=Kd.N_get ze.out [] yb y0 (by first|exact y1|exact of_decide_eq_true pD|(have e_:=(Kd.N_reads' ze.out).1;omega))
 obtain⟨ua641_0,uc641_0,rfl,ul641_0,ge641_0⟩:=Kd.FK_slice_open yr
 have hv641_0:=ym 0 _ rfl
 rw [Nat.add_zero,show ((Kd.slice 3 (Kd.int .i64))).sz=1 from rfl,Nat.mul_one] at hv641_0
 replace hv641_0:=Option.some.inj (hv641_0.symm.trans yg)
 injection hv641_0 with hva_ hvn_ hvc_
 rw [hva_] at ge641_0
 rw [hvc_] at ul641_0
 have HL641_0:=aM (show Kd.V (Kd.int .i64) 3 _ w.heap.size _ _ (rd_L1 za yb) from Kd.V_mk ul641_0 ge641_0)
 clear hva_ hvn_ hvc_ ge641_0 ul641_0
 clear ym yq
 have zh:=aM yj
 have HC641_0:=aM yi
 clear yj yi
 have y5:0≤(ya:Int):=oD
 have y6:ya < ((rd_L1 za yb).length:Int):=oD
 obtain⟨yo,y7,yk⟩:=Kd.at_int (by repeat(first|(with_reducible exact zh.out)|(with_reducible refine Kd.C_alloc ?_ _)|(with_reducible refine Kd.C_drewN ?_ _)|(with_reducible refine Kd.C_drew ?_)|exact zh.out)) ya y5 y6
 cases y7
 have y8:0≤((rd l1 ya):Int):=oD
 have y9:((rd l1 ya):Int) < ((yd.length:Int):Int):=oD
 obtain⟨yl,co23,z2,z3,gl23,cl23,HG23⟩:=Kd.R_form zc.out (by omega)
 (first|cases z2|(injection z2 with ea_ en_ ec_;(first|subst ea_|(injection ea_ with ea_;subst ea_));subst ec_;clear en_))
 have GB23:=aM z3
 have GG23:=aM HG23
 clear z3 gl23 HG23
 obtain⟨ys,hf23_0⟩:=Kd.R_celln 0 zc.out ((rd l1 ya):Int) y8 y9
 have HP25:=Kd.R_putn zc.out ((rd l1 ya):Int) (rd (rd_L1 za yb) ya)
 rw [← Ny643.out] at HP25
 have HQ25:=aM HP25
 clear HP25
 refine sT 14 [13] (fun w'=>w'.cell? (yz.add (ya).toNat)=some (.int .i64 (rd l1 ya))∧w'.cell? (y2.add (yb).toNat)=some (.slice (some yo) (rd_L1 za yb).length yp)∧w'.cell? (yo.add (ya).toNat)=some (.int .i64 (rd (rd_L1 za yb) ya))) fav.tab13 fav.bits13 ⟨(zW HB yh),yg,yk⟩ (fun hHeld HT_ HW_=>?_)
 generalize wr.drew=w24 at zd ze zb zc HB GG23 HL641_0 HQ25 zh hf23_0 ys yn yg yk hHeld ⊢
 refine pQ 0 38 14 1 HT_ ?_
 refine pQ 1 39 14 3 HT_ ?_
 refine pQ 2 40 14 7 HT_ ?_
 refine pQ 3 41 14 15 HT_ ?_
 refine pQ 5 43 14 47 HT_ ?_
 refine pQ 6 44 14 111 HT_ ?_
 refine pQ 7 45 14 239 HT_ ?_
 refine pQ 9 47 14 751 HT_ ?_
 refine pU3 4 42 14 767 HT_ HW_ hHeld ?_
 refine pU3 8 46 14 1023 HT_ HW_ hHeld ?_
 refine pQ 10 48 14 2047 HT_ ?_
 refine pU3 11 49 14 4095 HT_ HW_ hHeld ?_
 refine pQ 12 50 14 8191 HT_ ?_
 refine last_ (i:=13) (N:=none) (bm 14 16383) rfl rfl (one_of HT_.out (by kernel_rfl)) (by decide) (fun K hK=>?_)
 refine skip_ (w1:=?_) (by rfl) rfl ?_ ?_
 rotate_left
 ·go_simp
  rfl
 refine hK.out _ _ ?_
 clear hK K
 refine dN HT_ ?_
 try go_wp2
 go_roundg k2
 case measure=>have:=HK1.out;have:=HK2.out;omega
 case rel=>exact⟨(z1),(wrap64 (ya + 1)),(pF),H',⟨pO2 HK1 HK2⟩,⟨by(try simp only [yc]);(with_reducible repeat(first|apply rA|apply rN|apply rD));exact Kd.R_mono (Kd.R_far (p:=⟨yl,((rd l1 ya):Int).toNat,none⟩) (Kd.R_mono zd.out (fun k_ hk=>(⟨hk,fun e_=>hk.2 (by rw [e_];rfl)⟩:_∧k_≠yl))) (fun _ hk=>hk.2) (.int .i64 (rd (rd_L1 za yb) ya))) (fun _ hk=>⟨hk.1.1,hk.1.2⟩)⟩,⟨by(try simp only [yc]);(with_reducible repeat(first|apply Kd.N_alloc|apply Kd.N_drewN|apply Kd.N_drew));exact Kd.N_mono (Kd.N_far (p:=⟨yl,((rd l1 ya):Int).toNat,none⟩) (Kd.N_mono ze.out (fun k_ hk=>(⟨hk,fun e_=>hk.2.2 (by rw [e_];rfl)⟩:_∧k_≠yl))) (fun _ hk=>hk.2) (.int .i64 (rd (rd_L1 za yb) ya))) (fun _ hk=>⟨hk.1.1,⟨hk.1.2.1,hk.1.2.2⟩⟩)⟩,⟨by(try simp only [yc]);(with_reducible repeat(first|apply rA|apply rN|apply rD));exact Kd.R_mono (Kd.R_far (p:=⟨yl,((rd l1 ya):Int).toNat,none⟩) (Kd.R_mono zb.out (fun k_ hk=>(⟨hk,fun e_=>hk.2 (by rw [e_];rfl)⟩:_∧k_≠yl))) (fun _ hk=>hk.2) (.int .i64 (rd (rd_L1 za yb) ya))) (fun _ hk=>⟨hk.1.1,hk.1.2⟩)⟩,⟨by(try simp only [yc]);(with_reducible repeat(first|apply rA|apply rN|apply rD));exact HQ25.out⟩,⟨qB1 HB GB23⟩⟩
def fah.l0:Nat→List Int→Int→Int→Int→Option (Int)
 | 0,_,_,_,_=>none
 | k + 1,x0,x3,x9,x10=>if x10 < x9 then(if 0≤x10 then(if x10 < (x0.length:Int)then(fah.l0 k x0 (wrap64 (x3 * (rd x0 x10))) x9 (wrap64 (x10 + 1)))else(none))else(none))else(some x3)
def fah.f (k:Nat) (l0:List Int):Option (Int):=(fag.f k l0).bind fun za=>(if za=0 then(fah.l0 k l0 1 (l0.length:Int) 0)else(some 0))
theorem fah.calls (k:Nat)(A0:Option Addr)(c0:Nat)(l0:List Int) (r:Int)(w:World)(hr0:Kd.C (Kd.int .i64) w A0 l0.length l0)(hc0:l0.length≤c0)(h:fah.f k l0=some r) :
  Calls Try.prog 20 #[.slice A0 l0.length c0] w fun e w'=>e=.returned (.int .i64 r)∧Drawn0 w w':=by
 have HR0:=aM hr0
 have HC0:=aM hc0
 clear hr0 hc0
 have H:((fag.f k l0).bind fun za=>(if za=0 then(fah.l0 k l0 1 (l0.length:Int) 0)else(some 0)))=some r:=h
 clear h
 replace H:=oB H
 obtain⟨za,A20,H⟩:=H
 try dsimp only at H
 have A2:=aM A20
 clear A20
 by_cases c3:za=0
 rotate_left
 ·rw [iN c3] at H
  have zb:=bF c3
  have zc:=nT c3
  obtain rfl:=Option.some.inj H
  go_enter Try.func20,Try.ntmps20
  go_wp2_with (first|((with_reducible refine gC 30 rfl ?_);refine gL 6 Try.func30 #[.slice A0 l0.length c0] ?_;(with_reducible refine(fag.calls k _ _ l0 za _ ?s1 HC0.out A2.out).mono ?_);(case s1=>exact pC HR0.out);rintro e w' ⟨rfl,⟨nd,rfl⟩⟩;refine⟨_,rfl,?_⟩))
  go_ret
  exact⟨pF,by repeat(first|exact Drawn0.refl _|apply Drawn0.step)⟩
 rw [ip c3] at H
 have zb:=bT c3
 have zc:=nF c3
 clear c3
 have H':=aM H
 clear H
 go_enter Try.func20,Try.ntmps20
 go_wp2_with (first|((with_reducible refine gC 30 rfl ?_);refine gL 6 Try.func30 #[.slice A0 l0.length c0] ?_;(with_reducible refine(fag.calls k _ _ l0 za _ ?s1 HC0.out A2.out).mono ?_);(case s1=>exact pC HR0.out);rintro e w' ⟨rfl,⟨nd,rfl⟩⟩;refine⟨_,rfl,?_⟩))
 go_loopg [3,10] k (fun kq v3 v10 w'=>∃ (yb:Int) (ya:Int),v3=.int .i64 yb∧v10=.int .i64 ya∧Aside0 (fah.l0 kq l0 yb (l0.length:Int) ya=some r)∧Aside0 (kq≤k)∧Drawn0 w w')
 case atStart=>exact⟨(1),(0),(pF),(pF),H',⟨Nat.le_refl _⟩,by repeat(first|exact Drawn0.refl _|apply Drawn0.step)⟩
 clear H'
 try clear zb
 try clear zc
 obtain⟨yb,ya,rfl,rfl,HA,HK1,⟨m1,rfl⟩⟩:=hrel
 cases gk with
 | zero=>exact absurd HA.out (by simp [fah.l0])
 | succ k1=>?_
 have H:=HA.out
 clear HA
 simp only [fah.l0] at H
 by_cases c4:ya < (l0.length:Int)
 rotate_left
 ·rw [iN c4] at H
  have yc:=dF c4
  clear c4
  obtain rfl:=Option.some.inj H
  go_wp2
  go_ret
  exact⟨pF,by repeat(first|exact Drawn0.refl _|apply Drawn0.step)⟩
 rw [ip c4] at H
 have yc:=dT c4
 clear c4
 by_cases c5:0≤ya
 rotate_left
 ·rw [iN c5] at H
  cases H
 rw [ip c5] at H
 have c5b0:=dT c5
 clear c5
 by_cases c6:ya < (l0.length:Int)
 rotate_left
 ·rw [iN c6] at H
  cases H
 rw [ip c6] at H
 have c6b0:=dT c6
 clear c6
 have H':=aM H
 clear H
 obtain⟨ad591,⟨⟩,hx591_0,p591,q591⟩:=zI HR0.out ya
 go_wp2
 go_roundg k1
 case measure=>have:=HK1.out;omega
 case rel=>exact⟨(wrap64 (yb * (rd l0 ya))),(wrap64 (ya + 1)),(pF),(pF),H',⟨pO1 HK1⟩,by repeat(first|exact Drawn0.refl _|apply Drawn0.step)⟩
def faw.l0:Nat→List Int→List Int→Int→Int→Option (List Int×List Int×Int)
 | 0,_,_,_,_=>none
 | k + 1,x1,x8,x21,x22=>if x22 < x21 then(if x8.length < 17592186044416 then(faw.l0 k x1 (x8 ++ [x22]) x21 (wrap64 (x22 + 1)))else(none))else((some (([]:List Int):List Int)).bind fun zf=>(if zf.length + x1.length < 17592186044416 then(some ((zf ++ x1),x8,0))else(none)))
def faw.f (k:Nat) (l0:List Int) (l1:List Int):Option (List Int×List Int×Int):=(fag.f k l1).bind fun za=>(if za=0 then((fah.f k l1).bind fun zb=>((fah.f k l0).bind fun zc=>(if zb=zc then((fah.f k l0).bind fun zd=>(faw.l0 k l1 ([]:List Int) zd 0))else(some (([]:List Int),([]:List Int),8)))))else(some (([]:List Int),([]:List Int),za)))
theorem faw.calls (k:Nat)(A0:Option Addr)(c0:Nat)(l0:List Int)(A1:Option Addr)(c1:Nat)(l1:List Int)(r1:List Int)(r2:List Int) (r3:Int)(w:World)(hr0:Kd.C (Kd.int .i64) w A0 l0.length l0)(hc0:l0.length≤c0)(hr1:Kd.C (Kd.int .i64) w A1 l1.length l1)(hc1:l1.length≤c1)(h:faw.f k l0 l1=some (r1,r2,r3)) :
  Calls Try.prog 83 #[.slice A0 l0.length c0,.slice A1 l1.length c1] w fun e w'=>∃ v0_ v1_:Value,e=.returned (.tuple #[v0_,v1_,.int .i64 r3])∧Kd.R (Kd.int .i64) 3 w' w.heap.size (fun k_=>some k_≠(v1_:Value).ownBlock) v0_ r1∧Kd.R (Kd.int .i64) 3 w' w.heap.size (fun k_=>some k_≠(v0_:Value).ownBlock) v1_ r2∧Below w.heap.size w w':=by
 have HR0:=aM hr0
 have HC0:=aM hc0
 clear hr0 hc0
 have HR1:=aM hr1
 have HC1:=aM hc1
 clear hr1 hc1
 have HB:=aM (Below.refl w.heap.size w)
 have H:((fag.f k l1).bind fun za=>(if za=0 then((fah.f k l1).bind fun zb=>((fah.f k l0).bind fun zc=>(if zb=zc then((fah.f k l0).bind fun zd=>(faw.l0 k l1 ([]:List Int) zd 0))else(some (([]:List Int),([]:List Int),8)))))else(some (([]:List Int),([]:List Int),za))))=some (r1,r2,r3):=h
 clear h
 replace H:=oB H
 obtain⟨za,A30,H⟩:=H
 try dsimp only at H
 have A3:=aM A30
 clear A30
 by_cases c4:za=0
 rotate_left
 ·rw [iN c4] at H
  have zl:=bF c4
  have zm:=nT c4
  replace H:=oi3 H
  obtain⟨rfl,rfl,rfl⟩:=H
  go_enter Try.func83,Try.ntmps83
  go_wp2_with (first|((with_reducible refine gC 30 rfl ?_);refine gL 11 Try.func30 #[.slice A1 l1.length c1] ?_;(with_reducible refine(fag.calls k _ _ l1 za _ ?s1 HC1.out A3.out).mono ?_);(case s1=>exact pC HR1.out);rintro e w' ⟨rfl,⟨nd,rfl⟩⟩;refine⟨_,rfl,?_⟩))
  go_ret3
  exact⟨_,_,pE,pN,pN,qB HB⟩
 rw [ip c4] at H
 have zl:=bT c4
 have zm:=nF c4
 clear c4
 replace H:=oB H
 obtain⟨zb,A50,H⟩:=H
 try dsimp only at H
 have A5:=aM A50
 clear A50
 replace H:=oB H
 obtain⟨zc,A60,H⟩:=H
 try dsimp only at H
 have A6:=aM A60
 clear A60
 by_cases c7:zb=zc
 rotate_left
 ·rw [iN c7] at H
  have zn:=bF c7
  have zo:=nT c7
  replace H:=oi3 H
  obtain⟨rfl,rfl,rfl⟩:=H
  go_enter Try.func83,Try.ntmps83
  go_wp2_with (first|((with_reducible refine gC 30 rfl ?_);refine gL 11 Try.func30 #[.slice A1 l1.length c1] ?_;(with_reducible refine(fag.calls k _ _ l1 za _ ?s1 HC1.out A3.out).mono ?_);(case s1=>exact pC HR1.out);rintro e w' ⟨rfl,⟨nd,rfl⟩⟩;refine⟨_,rfl,?_⟩)|((with_reducible refine gC 20 rfl ?_);refine gL 16 Try.func20 #[.slice A1 l1.length c1] ?_;(with_reducible refine(fah.calls k _ _ l1 zb _ ?s1 HC1.out A5.out).mono ?_);(case s1=>exact pC HR1.out);rintro e w' ⟨rfl,⟨nd,rfl⟩⟩;refine⟨_,rfl,?_⟩)|((with_reducible refine gC 20 rfl ?_);refine gL 18 Try.func20 #[.slice A0 l0.length c0] ?_;(with_reducible refine(fah.calls k _ _ l0 zc _ ?s1 HC0.out A6.out).mono ?_);(case s1=>exact pC HR0.out);rintro e w' ⟨rfl,⟨nd,rfl⟩⟩;refine⟨_,rfl,?_⟩))
  go_ret3
  exact⟨_,_,pE,pN,pN,qB HB⟩
 rw [ip c7] at H
 have zn:=bT c7
 have zo:=nF c7
 clear c7
 replace H:=oB H
 obtain⟨zd,A80,H⟩:=H
 try dsimp only at H
 have A8:=aM A80
 clear A80
 have H':=aM H
 clear H
 go_enter Try.func83,Try.ntmps83
 go_wp2_with (first|((with_reducible refine gC 30 rfl ?_);refine gL 11 Try.func30 #[.slice A1 l1.length c1] ?_;(with_reducible refine(fag.calls k _ _ l1 za _ ?s1 HC1.out A3.out).mono ?_);(case s1=>exact pC HR1.out);rintro e w' ⟨rfl,⟨nd,rfl⟩⟩;refine⟨_,rfl,?_⟩)|((with_reducible refine gC 20 rfl ?_);refine gL 16 Try.func20 #[.slice A1 l1.length c1] ?_;(with_reducible refine(fah.calls k _ _ l1 zb _ ?s1 HC1.out A5.out).mono ?_);(case s1=>exact pC HR1.out);rintro e w' ⟨rfl,⟨nd,rfl⟩⟩;refine⟨_,rfl,?_⟩)|((with_reducible refine gC 20 rfl ?_);refine gL 18 Try.func20 #[.slice A0 l0.length c0] ?_;(with_reducible refine(fah.calls k _ _ l0 zc _ ?s1 HC0.out A6.out).mono ?_);(case s1=>exact pC HR0.out);rintro e w' ⟨rfl,⟨nd,rfl⟩⟩;refine⟨_,rfl,?_⟩)|((with_reducible refine gC 20 rfl ?_);refine gL 21 Try.func20 #[.slice A0 l0.length c0] ?_;(with_reducible refine(fah.calls k _ _ l0 zd _ ?s1 HC0.out A8.out).mono ?_);(case s1=>exact pC HR0.out);rintro e w' ⟨rfl,⟨nd,rfl⟩⟩;refine⟨_,rfl,?_⟩))
 go_loopg [8,22] k (fun kq v8 v22 w'=>∃ (yb:List Int) (ya:Int),v22=.int .i64 ya∧Aside0 (faw.l0 kq l1 yb zd ya=some (r1,r2,r3))∧Aside0 (kq≤k)∧Aside0 (Kd.R (Kd.int .i64) 3 w' w.heap.size (fun _=>True) v8 yb)∧Aside0 (Below w.heap.size w w'))
 case atStart=>exact⟨(([]:List Int)),(0),(pF),H',⟨Nat.le_refl _⟩,⟨pN⟩,⟨qB HB⟩⟩
 clear H'
 try clear c1
 try clear zl
 try clear zm
 try clear zn
 try clear zo
 obtain⟨yb,ya,rfl,HA,HK1,ze,HB⟩:=hrel
 cases gk with
 | zero=>exact absurd HA.out (by simp [faw.l0])
 | succ k1=>?_
 have H:=HA.out
 clear HA
 simp only [faw.l0] at H
 by_cases c9:ya < zd
 ·rw [ip c9] at H
  have yc:=dT c9
  clear c9
  by_cases c10:yb.length < 17592186044416
  rotate_left
  ·rw [iN c10] at H
   cases H
  rw [ip c10] at H
  have LMc10:=aM c10
  clear c10
  obtain⟨zp,zg⟩:∃ y_:List Int,y_=(yb ++ [ya]):=⟨_,rfl⟩
  replace H:(faw.l0 k1 l1 zp zd (wrap64 (ya + 1)))=some (r1,r2,r3):=pH zg H
  have Ny596:=aM zg
  clear zg
  have H':=aM H
  clear H
  go_wp2_with (first|((with_reducible refine gate_builtin (b:=.append) (xs:=#[.tmp 25,.tmp 27]) rfl ?_);at_builtin;refine Kd.R_append (Kd.int .i64) (w0:=w) w.heap.size rfl (.tmp 25) (.tmp 27) 22 3 (.int .i64 0) 8 rfl Try.underlying22 info3 rfl (by decide) (by omega) u8 yb ya [.int .i64 ya] (fun _=>True) (fun _=>False) rfl rfl ?aP (fun _ hk=>hk.elim) ?aF ?aO ?aB ?aS ?aL ?_;(case aP=>exact rfl);(case aB=>exact(qB HB));(case aF=>exact(fun _ _=>trivial));(case aO=>exact(pR ze.out));(case aS=>exact(below_size (qB HB)));(case aL=>have:=LMc10.out;omega);intro v597 w11 ho hb hg hat;rw [← Ny596.out] at ho;replace HB:=aM (hb);have HO598:=aM (ho);clear ze;clear ho hb hg hat))
  go_roundg k1
  case measure=>have:=HK1.out;omega
  case rel=>exact⟨(zp),(wrap64 (ya + 1)),(pF),H',⟨pO1 HK1⟩,⟨pR HO598.out⟩,⟨qB HB⟩⟩
 rw [iN c9] at H
 have yc:=dF c9
 clear c9
 obtain⟨zf,zh⟩:∃ y_:List Int,y_=(([]:List Int)):=⟨_,rfl⟩
 replace H:(if zf.length + l1.length < 17592186044416 then(some ((zf ++ l1),yb,0))else(none))=some (r1,r2,r3):=pH zh H
 have zj:=aM zh
 clear zh
 by_cases c12:zf.length + l1.length < 17592186044416
 rotate_left
 ·rw [iN c12] at H
  cases H
 rw [ip c12] at H
 have LMc12:=aM c12
 clear c12
 obtain⟨y602,zi⟩:∃ y_:List Int,y_=(zf ++ l1):=⟨_,rfl⟩
 replace H:(some (y602,yb,0))=some (r1,r2,r3):=pH zi H
 have Ny602:=aM zi
 clear zi
 replace H:=oi3 H
 obtain⟨rfl,rfl,rfl⟩:=H
 go_wp2_with (first|((with_reducible refine gD 30 rfl ?_);refine Kd.R_lit (Kd.int .i64) _ 3 ?hg (N:=30) ?hd (xs:=([]:List Int)) (inner:=[]) (ok:=fun _=>True) (okp:=fun _=>True) ?hr ?hp (fun _ hk=>hk) trivial (Below.refl _ _) (Nat.le_refl _) (by simp) ?_;(case hd=>rfl);(case hg=>rfl);(case hr=>first|(go_simp;done)|(go_simp;rfl));(case hp=>exact(Reps.none _ _));intro v600 w13 ho14 hb hg_ hnew_;clear hg_ hnew_;(first|rw [← zj.out] at ho14|(simp only [Int.reduceToNat] at ho14;rw [← zj.out] at ho14));have zk:=aM (Kd.R_lower (Kd.R_new' ho14 (Kd.R_lt (pR ze.out))) (below_size (qB HB)));replace ze:=eR ze ho14 hb;replace HB:=bS (qB HB) hb;clear hb ho14)|((with_reducible refine gate_builtin (b:=.append) (xs:=#[.tmp 30,.tmp 31]) rfl ?_);at_builtin;refine Kd.R_append_rows (Kd.int .i64) (w0:=w) w.heap.size rfl (.tmp 30) (.tmp 31) 22 3 (.int .i64 0) 8 rfl Try.underlying22 info3 rfl (by decide) (by omega) v600 zf l1 _ _ _ (fun k_=>some k_≠(u8:Value).ownBlock) (fun _=>False) rfl rfl ?aO ?aR (fun _ _ h=>h) (fun _ h=>h.elim) ?aF ?aB ?aS ?aL ?_;(case aR=>exact sC HR1 HB);(case aB=>exact(qB HB));(case aF=>exact(fun k_ hk=>Kd.fresh' (Kd.R_lt (pR ze.out)) k_ hk));(case aO=>exact(by(with_reducible repeat(first|apply rA|apply rN|apply rD));exact Kd.R_mono zk.out (fun _ hk=>hk.2)));(case aS=>exact(below_size (qB HB)));(case aL=>have:=LMc12.out;omega);intro v603 w15 ho hb hg hat;rw [← Ny602.out] at ho;replace ze:=aM (Kd.R_after (ok:=(fun _=>True)) (pR ze.out) hg hat);replace HB:=aM (hb);have HO604:=aM (ho);clear zk;clear ho hb hg hat))
 go_ret3
 exact⟨_,_,pE,pR HO604.out,by(with_reducible repeat(first|apply rA|apply rN|apply rD));exact Kd.R_mono ze.out (fun _ hk=>hk.2),qB HB⟩
mutual
def fay.j0:Nat→List Int→Int→Int→Int→Int→Bool→Option (List Int×List Int×Int)
 | 0,_,_,_,_,_,_=>none
 | k + 1,x0,x1,x2,x3,x4,x23=>if x23=true then(some (([]:List Int),([]:List Int),10))else(if x3 < 1 then(fay.j1 k x0 x1 x2 x3 x4 true)else(if 0≤x1 then(if x1 < (x0.length:Int)then(if x3 > (rd x0 x1)then(fay.j1 k x0 x1 x2 x3 x4 true)else(if x2 < 0 then(fay.j1 k x0 x1 x2 x3 x4 true)else(if x2 ≥ (rd x0 x1)then(fay.j1 k x0 x1 x2 x3 x4 true)else(if x3 > 1 then(if x4=0 then(fay.j1 k x0 x1 x2 x3 x4 true)else(if x4 > 64 then(fay.j1 k x0 x1 x2 x3 x4 true)else(fay.j1 k x0 x1 x2 x3 x4 (decide (x4 < (-64))))))else(fay.j1 k x0 x1 x2 x3 x4 false)))))else(none))else(none)))
def fay.j1:Nat→List Int→Int→Int→Int→Int→Bool→Option (List Int×List Int×Int)
 | 0,_,_,_,_,_,_=>none
 | k + 1,x0,x1,x2,x3,x4,x61=>if x61=true then(some (([]:List Int),([]:List Int),11))else(fay.l0 k x0 x1 x2 x4 ([]:List Int) x3 0)
def fay.l0:Nat→List Int→Int→Int→Int→List Int→Int→Int→Option (List Int×List Int×Int)
 | 0,_,_,_,_,_,_,_=>none
 | k + 1,x0,x1,x2,x4,x13,x62,x63=>if x63 < x62 then(if x63 > 0 then(if(wrap64 (x2 + (wrap64 (x63 * x4)))) < 0 then(some (([]:List Int),([]:List Int),11))else(if 0≤x1 then(if x1 < (x0.length:Int)then(if(wrap64 (x2 + (wrap64 (x63 * x4)))) ≥ (rd x0 x1)then(some (([]:List Int),([]:List Int),11))else(if x13.length < 17592186044416 then(fay.l0 k x0 x1 x2 x4 (x13 ++ [wrap64 (x2 + (wrap64 (x63 * x4)))]) x62 (wrap64 (x63 + 1)))else(none)))else(none))else(none)))else(if x2 < 0 then(some (([]:List Int),([]:List Int),11))else(if 0≤x1 then(if x1 < (x0.length:Int)then(if x2 ≥ (rd x0 x1)then(some (([]:List Int),([]:List Int),11))else(if x13.length < 17592186044416 then(fay.l0 k x0 x1 x2 x4 (x13 ++ [x2]) x62 (wrap64 (x63 + 1)))else(none)))else(none))else(none))))else((faz.f k x0 x1 x13).bind fun bt671=>(some (bt671.1,bt671.2.1,bt671.2.2)))
end
def fay.f (k:Nat) (l0:List Int) (a1:Int) (a2:Int) (a3:Int) (a4:Int):Option (List Int×List Int×Int):=if a1 < 0 then(fay.j0 k l0 a1 a2 a3 a4 true)else(fay.j0 k l0 a1 a2 a3 a4 (decide (a1 ≥ (l0.length:Int))))
theorem fay.calls (k:Nat)(A0:Option Addr)(c0:Nat)(l0:List Int) (a1:Int) (a2:Int) (a3:Int) (a4:Int)(r1:List Int)(r2:List Int) (r3:Int)(w:World)(hr0:Kd.C (Kd.int .i64) w A0 l0.length l0)(hc0:l0.length≤c0)(h:fay.f k l0 a1 a2 a3 a4=some (r1,r2,r3)) :
  Calls Try.prog 85 #[.slice A0 l0.length c0,.int .i64 a1,.int .i64 a2,.int .i64 a3,.int .i64 a4] w fun e w'=>∃ v0_ v1_:Value,e=.returned (.tuple #[v0_,v1_,.int .i64 r3])∧Kd.R (Kd.int .i64) 3 w' w.heap.size (fun k_=>some k_≠(v1_:Value).ownBlock) v0_ r1∧Kd.R (Kd.int .i64) 3 w' w.heap.size (fun k_=>some k_≠(v0_:Value).ownBlock) v1_ r2∧Below w.heap.size w w':=by
 have HR0:=aM hr0
 have HC0:=aM hc0
 clear hr0 hc0
 have HB:=aM (Below.refl w.heap.size w)
 have H:(if a1 < 0 then(fay.j0 k l0 a1 a2 a3 a4 true)else(fay.j0 k l0 a1 a2 a3 a4 (decide (a1 ≥ (l0.length:Int)))))=some (r1,r2,r3):=h
 clear h
 have HC6:=aM H
 clear H
 go_enter Try.func85,Try.ntmps85
 go_upto_region 1 with(fail)
 go_cut [23] (fun v23 wc=>∃ (kq:Nat) (yj:Bool),v23=.bool yj∧Aside0 (fay.j0 kq l0 a1 a2 a3 a4 yj=some (r1,r2,r3))∧Aside0 (kq≤k)∧Aside0 (Below w.heap.size w wc))
 case first =>
  have H:=HC6.out
  clear HC6
  by_cases c7:a1 < 0
  ·rw [ip c7] at H
   have zc:=dT c7
   clear c7
   (first|rw [zc]|(simp only [i64_w,i32_w];rw [zc])|skip)
   have H':=aM H
   clear H
   go_wp2
   go_meet
   case rel=>exact⟨_,(true),(pF),H',⟨pO⟩,⟨qB HB⟩⟩
  rw [iN c7] at H
  have zc:=dF c7
  clear c7
  (first|rw [zc]|(simp only [i64_w,i32_w];rw [zc])|skip)
  have H':=aM H
  clear H
  go_wp2
  go_meet
  case rel=>exact⟨_,(decide (a1 ≥ (l0.length:Int))),(pF),H',⟨pO⟩,⟨qB HB⟩⟩
 clear HC6
 obtain⟨kq,yj,rfl,HA,HJ5,HB⟩:=hcut
 cases kq with
 | zero=>exact absurd HA.out (by simp [fay.j0])
 | succ kj5=>?_
 have H:=HA.out
 clear HA
 simp only [fay.j0] at H
 by_cases c8:yj=true
 ·subst c8
  rw [ip rfl] at H
  replace H:=oi3 H
  obtain⟨rfl,rfl,rfl⟩:=H
  go_wp2
  go_ret3
  exact⟨_,_,pE,pN,pN,qB HB⟩
 replace c8:=Bool.eq_false_iff.mpr c8
 subst c8
 rw [iN (show ¬ (false=true) by decide)] at H
 have HC9:=aM H
 clear H
 go_upto_region 3 with(fail)
 go_cut [61] (fun v61 wc=>∃ (kq:Nat) (yk:Bool),v61=.bool yk∧Aside0 (fay.j1 kq l0 a1 a2 a3 a4 yk=some (r1,r2,r3))∧Aside0 (kq≤kj5)∧Aside0 (Below w.heap.size w wc))
 case first =>
  have H:=HC9.out
  clear HC9
  by_cases c10:a3 < 1
  ·rw [ip c10] at H
   have zb:=dT c10
   clear c10
   (first|rw [zb]|(simp only [i64_w,i32_w];rw [zb])|skip)
   have H':=aM H
   clear H
   go_wp2
   go_meet
   case rel=>exact⟨_,(true),(pF),H',⟨pO1 HJ5⟩,⟨qB HB⟩⟩
  rw [iN c10] at H
  have zb:=dF c10
  clear c10
  (first|rw [zb]|(simp only [i64_w,i32_w];rw [zb])|skip)
  by_cases c11:0≤a1
  rotate_left
  ·rw [iN c11] at H
   cases H
  rw [ip c11] at H
  have c11b0:=dT c11
  clear c11
  by_cases c12:a1 < (l0.length:Int)
  rotate_left
  ·rw [iN c12] at H
   cases H
  rw [ip c12] at H
  have c12b0:=dT c12
  clear c12
  by_cases c13:a3 > (rd l0 a1)
  ·rw [ip c13] at H
   have yp:decide ((rd l0 a1) < a3)=true:=decide_eq_true c13
   clear c13
   have H':=aM H
   clear H
   obtain⟨yd,⟨⟩,ya,yl,ym⟩:=zI HR0.out a1
   replace ya:=zW HB ya
   go_wp2
   go_meet
   case rel=>exact⟨_,(true),(pF),H',⟨pO1 HJ5⟩,⟨qB HB⟩⟩
  rw [iN c13] at H
  have yp:decide ((rd l0 a1) < a3)=false:=decide_eq_false c13
  clear c13
  by_cases c14:a2 < 0
  ·rw [ip c14] at H
   have yq:=dT c14
   clear c14
   have H':=aM H
   clear H
   obtain⟨yd,⟨⟩,ya,yl,ym⟩:=zI HR0.out a1
   replace ya:=zW HB ya
   go_wp2
   go_meet
   case rel=>exact⟨_,(true),(pF),H',⟨pO1 HJ5⟩,⟨qB HB⟩⟩
  rw [iN c14] at H
  have yq:=dF c14
  clear c14
  by_cases c15:a2 ≥ (rd l0 a1)
  ·rw [ip c15] at H
   have yr:decide ((rd l0 a1)≤a2)=true:=decide_eq_true c15
   clear c15
   have H':=aM H
   clear H
   obtain⟨yd,⟨⟩,ya,yl,ym⟩:=zI HR0.out a1
   replace ya:=zW HB ya
   obtain⟨yf,yi,yb,yn,yo⟩:=zI HR0.out a1
   obtain rfl:yd=yf:=(by injection yi)
   replace yb:=zW HB yb
   go_wp2
   go_meet
   case rel=>exact⟨_,(true),(pF),H',⟨pO1 HJ5⟩,⟨qB HB⟩⟩
  rw [iN c15] at H
  have yr:decide ((rd l0 a1)≤a2)=false:=decide_eq_false c15
  clear c15
  by_cases c16:a3 > 1
  rotate_left
  ·rw [iN c16] at H
   have ys:decide (1 < a3)=false:=decide_eq_false c16
   clear c16
   have H':=aM H
   clear H
   obtain⟨yd,⟨⟩,ya,yl,ym⟩:=zI HR0.out a1
   replace ya:=zW HB ya
   obtain⟨yf,yi,yb,yn,yo⟩:=zI HR0.out a1
   obtain rfl:yd=yf:=(by injection yi)
   replace yb:=zW HB yb
   go_wp2
   go_meet
   case rel=>exact⟨_,(false),(pF),H',⟨pO1 HJ5⟩,⟨qB HB⟩⟩
  rw [ip c16] at H
  have ys:decide (1 < a3)=true:=decide_eq_true c16
  clear c16
  by_cases c17:a4=0
  ·rw [ip c17] at H
   have yt:=bT c17
   have yu:=nF c17
   clear c17
   have H':=aM H
   clear H
   obtain⟨yd,⟨⟩,ya,yl,ym⟩:=zI HR0.out a1
   replace ya:=zW HB ya
   obtain⟨yf,yi,yb,yn,yo⟩:=zI HR0.out a1
   obtain rfl:yd=yf:=(by injection yi)
   replace yb:=zW HB yb
   go_wp2
   go_meet
   case rel=>exact⟨_,(true),(pF),H',⟨pO1 HJ5⟩,⟨qB HB⟩⟩
  rw [iN c17] at H
  have yt:=bF c17
  have yu:=nT c17
  by_cases c18:a4 > 64
  ·rw [ip c18] at H
   have yv:decide (64 < a4)=true:=decide_eq_true c18
   clear c18
   have H':=aM H
   clear H
   obtain⟨yd,⟨⟩,ya,yl,ym⟩:=zI HR0.out a1
   replace ya:=zW HB ya
   obtain⟨yf,yi,yb,yn,yo⟩:=zI HR0.out a1
   obtain rfl:yd=yf:=(by injection yi)
   replace yb:=zW HB yb
   go_wp2
   go_meet
   case rel=>exact⟨_,(true),(pF),H',⟨pO1 HJ5⟩,⟨qB HB⟩⟩
  rw [iN c18] at H
  have yv:decide (64 < a4)=false:=decide_eq_false c18
  clear c18
  have H':=aM H
  clear H
  obtain⟨yd,⟨⟩,ya,yl,ym⟩:=zI HR0.out a1
  replace ya:=zW HB ya
  obtain⟨yf,yi,yb,yn,yo⟩:=zI HR0.out a1
  obtain rfl:yd=yf:=(by injection yi)
  replace yb:=zW HB yb
  go_wp2
  go_meet
  case rel=>exact⟨_,(decide (a4 < (-64))),(pF),H',⟨pO1 HJ5⟩,⟨qB HB⟩⟩
 clear HC9
 try clear c8
 obtain⟨kq,yk,rfl,HA,HJ8,HB⟩:=hcut
 cases kq with
 | zero=>exact absurd HA.out (by simp [fay.j1])
 | succ kj8=>?_
 have H:=HA.out
 clear HA
 simp only [fay.j1] at H
 by_cases c19:yk=true
 ·subst c19
  rw [ip rfl] at H
  replace H:=oi3 H
  obtain⟨rfl,rfl,rfl⟩:=H
  go_wp2
  go_ret3
  exact⟨_,_,pE,pN,pN,qB HB⟩
 replace c19:=Bool.eq_false_iff.mpr c19
 subst c19
 rw [iN (show ¬ (false=true) by decide)] at H
 have H':=aM H
 clear H
 go_wp2
 go_loopg [13,63] kj8 (fun kq v13 v63 w'=>∃ (ye:List Int) (yc:Int),v63=.int .i64 yc∧Aside0 (fay.l0 kq l0 a1 a2 a4 ye a3 yc=some (r1,r2,r3))∧Aside0 (kq≤kj8)∧Aside0 (Kd.R (Kd.int .i64) 3 w' w.heap.size (fun _=>True) v13 ye)∧Aside0 (Below w.heap.size w w'))
 case atStart=>exact⟨(([]:List Int)),(0),(pF),H',⟨Nat.le_refl _⟩,⟨pN⟩,⟨qB HB⟩⟩
 clear H'
 try clear c19
 obtain⟨ye,yc,rfl,HA,HK3,za,HB⟩:=hrel
 cases gk with
 | zero=>exact absurd HA.out (by simp [fay.l0])
 | succ k3=>?_
 have H:=HA.out
 clear HA
 simp only [fay.l0] at H
 by_cases c20:yc < a3
 rotate_left
 ·rw [iN c20] at H
  have yw:=dF c20
  clear c20
  replace H:=oB H
  obtain⟨⟨t671,t672,t673⟩,zf,H⟩:=H
  try dsimp only at H
  have A34:=aM zf
  clear zf
  replace H:=oi3 H
  obtain⟨rfl,rfl,rfl⟩:=H
  obtain⟨y4,y5,y6⟩:=Kd.R_slice za.out
  subst y6
  go_wp2_with (first|((with_reducible refine gC 66 rfl ?_);refine gL 92 Try.func66 #[.slice A0 l0.length c0,.int .i64 a1,.slice y4 ye.length y5] ?_;(with_reducible refine(faz.calls k3 _ _ l0 a1 _ _ ye t671 t672 t673 _ ?s1 HC0.out ?s3 ?s4 A34.out).mono ?_);(case s1=>exact sC HR0 HB);(case s3=>exact sR za);(case s4=>exact sL za);rintro e w36 ⟨v674,v676,rfl,ho0,ho1,hb⟩;refine⟨_,rfl,?_⟩;have HO675:=aM (Kd.R_lower (Kd.R_new' ho0 (Kd.R_lt (pR za.out))) (below_size (qB HB)));have HO677:=aM (Kd.R_lower (Kd.R_new' ho1 (Kd.R_lt (pR za.out))) (below_size (qB HB)));replace za:=eR2 za ho0 ho1 hb;replace HB:=bS (qB HB) hb;(try clear hb);(try clear hk);(try clear hi);(try clear ho0);(try clear ho1)))
  go_ret3
  exact⟨_,_,pE,by(with_reducible repeat(first|apply rA|apply rN|apply rD));exact Kd.R_mono HO675.out (fun _ hk=>hk.1),by(with_reducible repeat(first|apply rA|apply rN|apply rD));exact Kd.R_mono HO677.out (fun _ hk=>hk.1),qB HB⟩
 rw [ip c20] at H
 have yw:=dT c20
 clear c20
 by_cases c21:yc > 0
 ·rw [ip c21] at H
  have yx:decide (0 < yc)=true:=decide_eq_true c21
  clear c21
  by_cases c22:(wrap64 (a2 + (wrap64 (yc * a4)))) < 0
  ·rw [ip c22] at H
   have yy:=dT c22
   clear c22
   replace H:=oi3 H
   obtain⟨rfl,rfl,rfl⟩:=H
   go_wp2
   go_ret3
   exact⟨_,_,pE,pN,pN,qB HB⟩
  rw [iN c22] at H
  have yy:=dF c22
  clear c22
  by_cases c23:0≤a1
  rotate_left
  ·rw [iN c23] at H
   cases H
  rw [ip c23] at H
  have c23b0:=dT c23
  clear c23
  by_cases c24:a1 < (l0.length:Int)
  rotate_left
  ·rw [iN c24] at H
   cases H
  rw [ip c24] at H
  have c24b0:=dT c24
  clear c24
  by_cases c25:(wrap64 (a2 + (wrap64 (yc * a4)))) ≥ (rd l0 a1)
  ·rw [ip c25] at H
   have yz:decide ((rd l0 a1)≤(wrap64 (a2 + (wrap64 (yc * a4)))))=true:=decide_eq_true c25
   clear c25
   replace H:=oi3 H
   obtain⟨rfl,rfl,rfl⟩:=H
   obtain⟨y0,⟨⟩,yg,y7,y8⟩:=zI HR0.out a1
   replace yg:=zW HB yg
   go_wp2
   go_ret3
   exact⟨_,_,pE,pN,pN,qB HB⟩
  rw [iN c25] at H
  have yz:decide ((rd l0 a1)≤(wrap64 (a2 + (wrap64 (yc * a4)))))=false:=decide_eq_false c25
  clear c25
  by_cases c26:ye.length < 17592186044416
  rotate_left
  ·rw [iN c26] at H
   cases H
  rw [ip c26] at H
  have LMc26:=aM c26
  clear c26
  obtain⟨zg,zd⟩:∃ y_:List Int,y_=(ye ++ [wrap64 (a2 + (wrap64 (yc * a4)))]):=⟨_,rfl⟩
  replace H:(fay.l0 k3 l0 a1 a2 a4 zg a3 (wrap64 (yc + 1)))=some (r1,r2,r3):=pH zd H
  have Ny679:=aM zd
  clear zd
  have H':=aM H
  clear H
  obtain⟨y0,⟨⟩,yg,y7,y8⟩:=zI HR0.out a1
  replace yg:=zW HB yg
  go_wp2_with (first|((with_reducible refine gate_builtin (b:=.append) (xs:=#[.tmp 84,.tmp 86]) rfl ?_);(try (refine gate_guard (by rfl) ?_;dsimp only));at_builtin;refine Kd.R_append (Kd.int .i64) (w0:=w) w.heap.size rfl (.tmp 84) (.tmp 86) 22 3 (.int .i64 0) 8 rfl Try.underlying22 info3 rfl (by decide) (by omega) u13 ye (wrap64 (a2 + (wrap64 (yc * a4)))) [.int .i64 (wrap64 (a2 + (wrap64 (yc * a4))))] (fun _=>True) (fun _=>False) rfl rfl ?aP (fun _ hk=>hk.elim) ?aF ?aO ?aB ?aS ?aL ?_;(case aP=>exact rfl);(case aB=>exact(qB HB));(case aF=>exact(fun _ _=>trivial));(case aO=>exact(pR za.out));(case aS=>exact(below_size (qB HB)));(case aL=>have:=LMc26.out;omega);intro v680 w27 ho hb hg hat;rw [← Ny679.out] at ho;replace HB:=aM (hb);have HO681:=aM (ho);clear za;clear ho hb hg hat))
  go_roundg k3
  case measure=>have:=HJ5.out;have:=HJ8.out;have:=HK3.out;omega
  case rel=>exact⟨(zg),(wrap64 (yc + 1)),(pF),H',⟨by have:=HJ5.out;have:=HJ8.out;have:=HK3.out;omega⟩,⟨pR HO681.out⟩,⟨qB HB⟩⟩
 rw [iN c21] at H
 have yx:decide (0 < yc)=false:=decide_eq_false c21
 clear c21
 by_cases c28:a2 < 0
 ·rw [ip c28] at H
  have y1:=dT c28
  clear c28
  replace H:=oi3 H
  obtain⟨rfl,rfl,rfl⟩:=H
  go_wp2
  go_ret3
  exact⟨_,_,pE,pN,pN,qB HB⟩
 rw [iN c28] at H
 have y1:=dF c28
 clear c28
 by_cases c29:0≤a1
 rotate_left
 ·rw [iN c29] at H
  cases H
 rw [ip c29] at H
 have c29b0:=dT c29
 clear c29
 by_cases c30:a1 < (l0.length:Int)
 rotate_left
 ·rw [iN c30] at H
  cases H
 rw [ip c30] at H
 have c30b0:=dT c30
 clear c30
 by_cases c31:a2 ≥ (rd l0 a1)
 ·rw [ip c31] at H
  have y2:decide ((rd l0 a1)≤a2)=true:=decide_eq_true c31
  clear c31
  replace H:=oi3 H
  obtain⟨rfl,rfl,rfl⟩:=H
  obtain⟨y3,⟨⟩,yh,y9,yaa⟩:=zI HR0.out a1
  replace yh:=zW HB yh
  go_wp2
  go_ret3
  exact⟨_,_,pE,pN,pN,qB HB⟩
 rw [iN c31] at H
 have y2:decide ((rd l0 a1)≤a2)=false:=decide_eq_false c31
 clear c31
 by_cases c32:ye.length < 17592186044416
 rotate_left
 ·rw [iN c32] at H
  cases H
 rw [ip c32] at H
 have LMc32:=aM c32
 clear c32
 obtain⟨zh,ze⟩:∃ y_:List Int,y_=(ye ++ [a2]):=⟨_,rfl⟩
 replace H:(fay.l0 k3 l0 a1 a2 a4 zh a3 (wrap64 (yc + 1)))=some (r1,r2,r3):=pH ze H
 have Ny683:=aM ze
 clear ze
 have H':=aM H
 clear H
 obtain⟨y3,⟨⟩,yh,y9,yaa⟩:=zI HR0.out a1
 replace yh:=zW HB yh
 go_wp2_with (first|((with_reducible refine gate_builtin (b:=.append) (xs:=#[.tmp 84,.tmp 86]) rfl ?_);(try (refine gate_guard (by rfl) ?_;dsimp only));at_builtin;refine Kd.R_append (Kd.int .i64) (w0:=w) w.heap.size rfl (.tmp 84) (.tmp 86) 22 3 (.int .i64 0) 8 rfl Try.underlying22 info3 rfl (by decide) (by omega) u13 ye a2 [.int .i64 a2] (fun _=>True) (fun _=>False) rfl rfl ?aP (fun _ hk=>hk.elim) ?aF ?aO ?aB ?aS ?aL ?_;(case aP=>exact rfl);(case aB=>exact(qB HB));(case aF=>exact(fun _ _=>trivial));(case aO=>exact(pR za.out));(case aS=>exact(below_size (qB HB)));(case aL=>have:=LMc32.out;omega);intro v684 w33 ho hb hg hat;rw [← Ny683.out] at ho;replace HB:=aM (hb);have HO685:=aM (ho);clear za;clear ho hb hg hat))
 go_roundg k3
 case measure=>have:=HJ5.out;have:=HJ8.out;have:=HK3.out;omega
 case rel=>exact⟨(zh),(wrap64 (yc + 1)),(pF),H',⟨by have:=HJ5.out;have:=HJ8.out;have:=HK3.out;omega⟩,⟨pR HO685.out⟩,⟨qB HB⟩⟩
def fax.f (k:Nat) (a0:Int) (yb:Int) (yc:Int) (yd:Int) (ye:Int) (yh:Int) (yi:Int) (yj:Int) (yk:Int) (yl:Bool) (ya:List Int) (l2:List Int):Option (List Int×List Int×Int):=if a0=33 then((faw.f k l2 ya).bind fun bt768=>(some (bt768.1,bt768.2.1,bt768.2.2)))else(if a0=34 then((fav.f k l2 ya).bind fun bt775=>(some (bt775.1,bt775.2.1,bt775.2.2)))else(if a0=35 then((fay.f k l2 yb yc yd ye).bind fun bt782=>(some (bt782.1,bt782.2.1,bt782.2.2)))else(if a0=36 then((fat.f k l2 ya).bind fun bt789=>(some (bt789.1,bt789.2.1,bt789.2.2)))else(if a0=37 then((fau.f k l2 yb).bind fun bt796=>(some (bt796.1,bt796.2.1,bt796.2.2)))else(some (([]:List Int),([]:List Int),14))))))
theorem fax.calls (k:Nat) (a0:Int) (yb:Int) (yc:Int) (yd:Int) (ye:Int) (yh:Int) (yi:Int) (yj:Int) (yk:Int)(yl:Bool)(yf:Option Addr)(yg:Nat)(ya:List Int)(A2:Option Addr)(c2:Nat)(l2:List Int)(r1:List Int)(r2:List Int) (r3:Int)(w:World)(ym:Kd.C (Kd.int .i64) w yf ya.length ya)(yn:ya.length≤yg)(hr2:Kd.C (Kd.int .i64) w A2 l2.length l2)(hc2:l2.length≤c2)(h:fax.f k a0 yb yc yd ye yh yi yj yk yl ya l2=some (r1,r2,r3)) :
  Calls Try.prog 65 #[.int .i64 a0,.agg #[.int .i64 yb,.int .i64 yc,.int .i64 yd,.int .i64 ye,.int .i64 yh,.int .i64 yi,.int .i64 yj,.int .i64 yk,.bool yl,.slice yf ya.length yg],.slice A2 l2.length c2] w fun e w'=>∃ v0_ v1_:Value,e=.returned (.tuple #[v0_,v1_,.int .i64 r3])∧Kd.R (Kd.int .i64) 3 w' w.heap.size (fun k_=>some k_≠(v1_:Value).ownBlock) v0_ r1∧Kd.R (Kd.int .i64) 3 w' w.heap.size (fun k_=>some k_≠(v0_:Value).ownBlock) v1_ r2∧Below w.heap.size w w':=by
 have hu24:=Try.underlying24
 have ze:=aM ym
 have zf:=aM yn
 clear ym yn
 have HR2:=aM hr2
 have HC2:=aM hc2
 clear hr2 hc2
 have HB:=aM (Below.refl w.heap.size w)
 have H:(if a0=33 then((faw.f k l2 ya).bind fun bt768=>(some (bt768.1,bt768.2.1,bt768.2.2)))else(if a0=34 then((fav.f k l2 ya).bind fun bt775=>(some (bt775.1,bt775.2.1,bt775.2.2)))else(if a0=35 then((fay.f k l2 yb yc yd ye).bind fun bt782=>(some (bt782.1,bt782.2.1,bt782.2.2)))else(if a0=36 then((fat.f k l2 ya).bind fun bt789=>(some (bt789.1,bt789.2.1,bt789.2.2)))else(if a0=37 then((fau.f k l2 yb).bind fun bt796=>(some (bt796.1,bt796.2.1,bt796.2.2)))else(some (([]:List Int),([]:List Int),14)))))))=some (r1,r2,r3):=h
 clear h
 by_cases c4:a0=33
 ·rw [ip c4] at H
  have yu:=bT c4
  have yv:=nF c4
  clear c4
  replace H:=oB H
  obtain⟨⟨t768,t769,t770⟩,A50,H⟩:=H
  try dsimp only at H
  have A5:=aM A50
  clear A50
  replace H:=oi3 H
  obtain⟨rfl,rfl,rfl⟩:=H
  go_enter Try.func65,Try.ntmps65
  go_wp2_with (first|((with_reducible refine gD 4 rfl ?_);refine bX 4 24 (aT yb yc yd ye yh yi yj yk yl yf ya.length yg) ?_;intro zd hg w6 hbox hb;have zb:=aM (hbox);have zc:=gE (w:=w) hg (qB HB);have za:=zc;replace HB:=bS (qB HB) hb;clear hb hbox hg;have hcz7:=blk10 zb.out)|((with_reducible refine gC 83 rfl ?_);refine gL 14 Try.func83 #[.slice A2 l2.length c2,.slice yf ya.length yg] ?_;(with_reducible refine(faw.calls k _ _ l2 _ _ ya t768 t769 t770 _ ?s1 HC2.out ?s3 zf.out A5.out).mono ?_);(case s1=>exact sC HR2 HB);(case s3=>exact sC ze HB);rintro e w8 ⟨v771,v773,rfl,ho0,ho1,hb⟩;refine⟨_,rfl,?_⟩;have HO772:=aM (Kd.R_lower ho0 (below_size (qB1 HB za)));have HO774:=aM (Kd.R_lower ho1 (below_size (qB1 HB za)));replace zb:=bK zb hb;replace HB:=bS (qB1 HB za) hb;(try clear hb);(try clear hk);(try clear hi);(try clear ho0);(try clear ho1)))
  go_ret3
  exact⟨_,_,pE,pR HO772.out,pR HO774.out,qB1 HB za⟩
 rw [iN c4] at H
 have yu:=bF c4
 have yv:=nT c4
 by_cases c9:a0=34
 ·rw [ip c9] at H
  have yw:=bT c9
  have yx:=nF c9
  clear c9
  replace H:=oB H
  obtain⟨⟨t775,t776,t777⟩,zg,H⟩:=H
  try dsimp only at H
  have A10:=aM zg
  clear zg
  replace H:=oi3 H
  obtain⟨rfl,rfl,rfl⟩:=H
  go_enter Try.func65,Try.ntmps65
  go_wp2_with (first|((with_reducible refine gD 4 rfl ?_);refine bX 4 24 (aT yb yc yd ye yh yi yj yk yl yf ya.length yg) ?_;intro zd hg w11 hbox hb;have zb:=aM (hbox);have zc:=gE (w:=w) hg (qB HB);have za:=zc;replace HB:=bS (qB HB) hb;clear hb hbox hg;have hcz12:=blk10 zb.out)|((with_reducible refine gC 84 rfl ?_);refine gL 23 Try.func84 #[.slice A2 l2.length c2,.slice yf ya.length yg] ?_;(with_reducible refine(fav.calls k _ _ l2 _ _ ya t775 t776 t777 _ ?s1 HC2.out ?s3 zf.out A10.out).mono ?_);(case s1=>exact sC HR2 HB);(case s3=>exact sC ze HB);rintro e w13 ⟨v778,v780,rfl,ho0,ho1,hb⟩;refine⟨_,rfl,?_⟩;have HO779:=aM (Kd.R_lower ho0 (below_size (qB1 HB za)));have HO781:=aM (Kd.R_lower ho1 (below_size (qB1 HB za)));replace zb:=bK zb hb;replace HB:=bS (qB1 HB za) hb;(try clear hb);(try clear hk);(try clear hi);(try clear ho0);(try clear ho1)))
  go_ret3
  exact⟨_,_,pE,pR HO779.out,pR HO781.out,qB1 HB za⟩
 rw [iN c9] at H
 have yw:=bF c9
 have yx:=nT c9
 by_cases c14:a0=35
 ·rw [ip c14] at H
  have yo:=bT c14
  have yp:=nF c14
  clear c14
  replace H:=oB H
  obtain⟨⟨t782,t783,t784⟩,zh,H⟩:=H
  try dsimp only at H
  have A15:=aM zh
  clear zh
  replace H:=oi3 H
  obtain⟨rfl,rfl,rfl⟩:=H
  go_enter Try.func65,Try.ntmps65
  go_wp2_with (first|((with_reducible refine gD 4 rfl ?_);refine bX 4 24 (aT yb yc yd ye yh yi yj yk yl yf ya.length yg) ?_;intro zd hg w16 hbox hb;have zb:=aM (hbox);have zc:=gE (w:=w) hg (qB HB);have za:=zc;replace HB:=bS (qB HB) hb;clear hb hbox hg;have hcz17:=blk10 zb.out)|((with_reducible refine gC 85 rfl ?_);refine gL 38 Try.func85 #[.slice A2 l2.length c2,.int .i64 yb,.int .i64 yc,.int .i64 yd,.int .i64 ye] ?_;(with_reducible refine(fay.calls k _ _ l2 yb yc yd ye t782 t783 t784 _ ?s1 HC2.out A15.out).mono ?_);(case s1=>exact sC HR2 HB);rintro e w18 ⟨v785,v787,rfl,ho0,ho1,hb⟩;refine⟨_,rfl,?_⟩;have HO786:=aM (Kd.R_lower ho0 (below_size (qB1 HB za)));have HO788:=aM (Kd.R_lower ho1 (below_size (qB1 HB za)));replace zb:=bK zb hb;replace HB:=bS (qB1 HB za) hb;(try clear hb);(try clear hk);(try clear hi);(try clear ho0);(try clear ho1)))
  go_ret3
  exact⟨_,_,pE,pR HO786.out,pR HO788.out,qB1 HB za⟩
 rw [iN c14] at H
 have yo:=bF c14
 have yp:=nT c14
 by_cases c19:a0=36
 ·rw [ip c19] at H
  have yq:=bT c19
  have yr:=nF c19
  clear c19
  replace H:=oB H
  obtain⟨⟨t789,t790,t791⟩,zi,H⟩:=H
  try dsimp only at H
  have A20:=aM zi
  clear zi
  replace H:=oi3 H
  obtain⟨rfl,rfl,rfl⟩:=H
  go_enter Try.func65,Try.ntmps65
  go_wp2_with (first|((with_reducible refine gD 4 rfl ?_);refine bX 4 24 (aT yb yc yd ye yh yi yj yk yl yf ya.length yg) ?_;intro zd hg w21 hbox hb;have zb:=aM (hbox);have zc:=gE (w:=w) hg (qB HB);have za:=zc;replace HB:=bS (qB HB) hb;clear hb hbox hg;have hcz22:=blk10 zb.out)|((with_reducible refine gC 86 rfl ?_);refine gL 47 Try.func86 #[.slice A2 l2.length c2,.slice yf ya.length yg] ?_;(with_reducible refine(fat.calls k _ _ l2 _ _ ya t789 t790 t791 _ ?s1 HC2.out ?s3 zf.out A20.out).mono ?_);(case s1=>exact sC HR2 HB);(case s3=>exact sC ze HB);rintro e w23 ⟨v792,v794,rfl,ho0,ho1,hb⟩;refine⟨_,rfl,?_⟩;have HO793:=aM (Kd.R_lower ho0 (below_size (qB1 HB za)));have HO795:=aM (Kd.R_lower ho1 (below_size (qB1 HB za)));replace zb:=bK zb hb;replace HB:=bS (qB1 HB za) hb;(try clear hb);(try clear hk);(try clear hi);(try clear ho0);(try clear ho1)))
  go_ret3
  exact⟨_,_,pE,pR HO793.out,pR HO795.out,qB1 HB za⟩
 rw [iN c19] at H
 have yq:=bF c19
 have yr:=nT c19
 by_cases c24:a0=37
 rotate_left
 ·rw [iN c24] at H
  have ys:=bF c24
  have yt:=nT c24
  replace H:=oi3 H
  obtain⟨rfl,rfl,rfl⟩:=H
  go_enter Try.func65,Try.ntmps65
  go_wp2_with (first|((with_reducible refine gD 4 rfl ?_);refine bX 4 24 (aT yb yc yd ye yh yi yj yk yl yf ya.length yg) ?_;intro zd hg w29 hbox hb;have zb:=aM (hbox);have zc:=gE (w:=w) hg (qB HB);have za:=zc;replace HB:=bS (qB HB) hb;clear hb hbox hg))
  go_ret3
  exact⟨_,_,pE,pN,pN,qB1 HB za⟩
 rw [ip c24] at H
 have ys:=bT c24
 have yt:=nF c24
 clear c24
 replace H:=oB H
 obtain⟨⟨t796,t797,t798⟩,zj,H⟩:=H
 try dsimp only at H
 have A25:=aM zj
 clear zj
 replace H:=oi3 H
 obtain⟨rfl,rfl,rfl⟩:=H
 go_enter Try.func65,Try.ntmps65
 go_wp2_with (first|((with_reducible refine gD 4 rfl ?_);refine bX 4 24 (aT yb yc yd ye yh yi yj yk yl yf ya.length yg) ?_;intro zd hg w26 hbox hb;have zb:=aM (hbox);have zc:=gE (w:=w) hg (qB HB);have za:=zc;replace HB:=bS (qB HB) hb;clear hb hbox hg;have hcz27:=blk10 zb.out)|((with_reducible refine gC 87 rfl ?_);refine gL 56 Try.func87 #[.slice A2 l2.length c2,.int .i64 yb] ?_;(with_reducible refine(fau.calls k _ _ l2 yb t796 t797 t798 _ ?s1 HC2.out A25.out).mono ?_);(case s1=>exact sC HR2 HB);rintro e w28 ⟨v799,v801,rfl,ho0,ho1,hb⟩;refine⟨_,rfl,?_⟩;have HO800:=aM (Kd.R_lower ho0 (below_size (qB1 HB za)));have HO802:=aM (Kd.R_lower ho1 (below_size (qB1 HB za)));replace zb:=bK zb hb;replace HB:=bS (qB1 HB za) hb;(try clear hb);(try clear hk);(try clear hi);(try clear ho0);(try clear ho1)))
 go_ret3
 exact⟨_,_,pE,pR HO800.out,pR HO802.out,qB1 HB za⟩
mutual
def fbe.j0:Nat→List Int→Bool→Int→Int→Int→Int→Int→Int→Int→Int→Bool→List Int→Option (List Int×List Int×Int)
 | 0,_,_,_,_,_,_,_,_,_,_,_,_=>none
 | k + 1,x2,x28,zd,zi,zj,zk,zl,zm,zn,zo,zp,zc=>if x28=true then(some (([]:List Int),([]:List Int),10))else(fbe.l0 k x2 (zc.length:Int) 0 zd zi zj zk zl zm zn zo zp zc)
def fbe.l0:Nat→List Int→Int→Int→Int→Int→Int→Int→Int→Int→Int→Int→Bool→List Int→Option (List Int×List Int×Int)
 | 0,_,_,_,_,_,_,_,_,_,_,_,_,_=>none
 | k + 1,x2,x31,x32,zd,zi,zj,zk,zl,zm,zn,zo,zp,zc=>if x32 < x31 then(if 0≤x32 then(if x32 < (zc.length:Int)then(if(rd zc x32) < 0 then(some (([]:List Int),([]:List Int),11))else(if 0≤zd then(if zd < (x2.length:Int)then(if(rd zc x32) ≥ (rd x2 zd)then(some (([]:List Int),([]:List Int),11))else(fbe.l0 k x2 x31 (wrap64 (x32 + 1)) zd zi zj zk zl zm zn zo zp zc))else(none))else(none)))else(none))else(none))else((faz.f k x2 zd zc).bind fun bt814=>(some (bt814.1,bt814.2.1,bt814.2.2)))
end
def fbe.f (k:Nat) (a0:Int) (ya:Int) (yd:Int) (ye:Int) (yf:Int) (yg:Int) (yh:Int) (yi:Int) (yj:Int) (yk:Bool) (yb:List Int) (l2:List Int):Option (List Int×List Int×Int):=if a0=38 then(if ya < 0 then(fbe.j0 k l2 true ya yd ye yf yg yh yi yj yk yb)else(fbe.j0 k l2 (decide (ya ≥ (l2.length:Int))) ya yd ye yf yg yh yi yj yk yb))else((fax.f k a0 ya yd ye yf yg yh yi yj yk yb l2).bind fun bt804=>(some (bt804.1,bt804.2.1,bt804.2.2)))
theorem fbe.calls (k:Nat) (a0:Int) (ya:Int) (yd:Int) (ye:Int) (yf:Int) (yg:Int) (yh:Int) (yi:Int) (yj:Int)(yk:Bool)(yo:Option Addr)(yp:Nat)(yb:List Int)(A2:Option Addr)(c2:Nat)(l2:List Int)(r1:List Int)(r2:List Int) (r3:Int)(w:World)(yt:Kd.C (Kd.int .i64) w yo yb.length yb)(yu:yb.length≤yp)(hr2:Kd.C (Kd.int .i64) w A2 l2.length l2)(hc2:l2.length≤c2)(h:fbe.f k a0 ya yd ye yf yg yh yi yj yk yb l2=some (r1,r2,r3)) :
  Calls Try.prog 38 #[.int .i64 a0,.agg #[.int .i64 ya,.int .i64 yd,.int .i64 ye,.int .i64 yf,.int .i64 yg,.int .i64 yh,.int .i64 yi,.int .i64 yj,.bool yk,.slice yo yb.length yp],.slice A2 l2.length c2] w fun e w'=>∃ v0_ v1_:Value,e=.returned (.tuple #[v0_,v1_,.int .i64 r3])∧Kd.R (Kd.int .i64) 3 w' w.heap.size (fun k_=>some k_≠(v1_:Value).ownBlock) v0_ r1∧Kd.R (Kd.int .i64) 3 w' w.heap.size (fun k_=>some k_≠(v0_:Value).ownBlock) v1_ r2∧Below w.heap.size w w':=by
 have hu24:=Try.underlying24
 have ze:=aM yt
 have zh:=aM yu
 clear yt yu
 have HR2:=aM hr2
 have HC2:=aM hc2
 clear hr2 hc2
 have HB:=aM (Below.refl w.heap.size w)
 have H:(if a0=38 then(if ya < 0 then(fbe.j0 k l2 true ya yd ye yf yg yh yi yj yk yb)else(fbe.j0 k l2 (decide (ya ≥ (l2.length:Int))) ya yd ye yf yg yh yi yj yk yb))else((fax.f k a0 ya yd ye yf yg yh yi yj yk yb l2).bind fun bt804=>(some (bt804.1,bt804.2.1,bt804.2.2))))=some (r1,r2,r3):=h
 clear h
 by_cases c4:a0=38
 rotate_left
 ·rw [iN c4] at H
  have zal:=bF c4
  have zam:=nT c4
  replace H:=oB H
  obtain⟨⟨zaf,zag,zah⟩,zan,H⟩:=H
  try dsimp only at H
  have A25:=aM zan
  clear zan
  replace H:=oi3 H
  obtain⟨rfl,rfl,rfl⟩:=H
  go_enter Try.func38,Try.ntmps38
  go_wp2_with (first|((with_reducible refine gD 4 rfl ?_);(try (refine gate_guard (by rfl) ?_;dsimp only));refine bX 4 24 (aT ya yd ye yf yg yh yi yj yk yo yb.length yp) ?_;intro zg hg w26 hbox hb;have za:=aM (hbox);have zf:=gE (w:=w) hg (qB HB);have zb:=zf;replace HB:=bS (qB HB) hb;clear hb hbox hg;obtain⟨zq,zr,zs,zt,zu,zv,zw,zx,zy,zz,z0,z1,z2,z3,z4,z5,z6,z7,z8,z9⟩:=blk10 za.out)|(go_at_call 65;(with_reducible refine(fax.calls k a0 ya yd ye yf yg yh yi yj yk _ _ yb _ _ l2 zaf zag zah _ ?s1 zh.out ?s3 HC2.out A25.out).mono ?_);(case s1=>exact sC ze HB);(case s3=>exact sC HR2 HB);rintro e w28 ⟨zao,zap,rfl,ho0,ho1,hb⟩;have zaa:=aM (Kd.R_lower ho0 (below_size (qB1 HB zb)));have zab:=aM (Kd.R_lower ho1 (below_size (qB1 HB zb)));replace za:=bK za hb;replace HB:=bS (qB1 HB zb) hb;(try clear hb);(try clear hk);(try clear hi);(try clear ho0);(try clear ho1)))
  repeat(go_quiet (first|((with_reducible refine gD 4 rfl ?_);(try (refine gate_guard (by rfl) ?_;dsimp only));refine bX 4 24 (aT ya yd ye yf yg yh yi yj yk yo yb.length yp) ?_;intro zg hg w26 hbox hb;have za:=aM (hbox);have zf:=gE (w:=w) hg (qB HB);have zb:=zf;replace HB:=bS (qB HB) hb;clear hb hbox hg;obtain⟨zq,zr,zs,zt,zu,zv,zw,zx,zy,zz,z0,z1,z2,z3,z4,z5,z6,z7,z8,z9⟩:=blk10 za.out)|(go_at_call 65;(with_reducible refine(fax.calls k a0 ya yd ye yf yg yh yi yj yk _ _ yb _ _ l2 zaf zag zah _ ?s1 zh.out ?s3 HC2.out A25.out).mono ?_);(case s1=>exact sC ze HB);(case s3=>exact sC HR2 HB);rintro e w28 ⟨zao,zap,rfl,ho0,ho1,hb⟩;have zaa:=aM (Kd.R_lower ho0 (below_size (qB1 HB zb)));have zab:=aM (Kd.R_lower ho1 (below_size (qB1 HB zb)));replace za:=bK za hb;replace HB:=bS (qB1 HB zb) hb;(try clear hb);(try clear hk);(try clear hi);(try clear ho0);(try clear ho1)));try go_wp2_with (first|((with_reducible refine gD 4 rfl ?_);(try (refine gate_guard (by rfl) ?_;dsimp only));refine bX 4 24 (aT ya yd ye yf yg yh yi yj yk yo yb.length yp) ?_;intro zg hg w26 hbox hb;have za:=aM (hbox);have zf:=gE (w:=w) hg (qB HB);have zb:=zf;replace HB:=bS (qB HB) hb;clear hb hbox hg;obtain⟨zq,zr,zs,zt,zu,zv,zw,zx,zy,zz,z0,z1,z2,z3,z4,z5,z6,z7,z8,z9⟩:=blk10 za.out)|(go_at_call 65;(with_reducible refine(fax.calls k a0 ya yd ye yf yg yh yi yj yk _ _ yb _ _ l2 zaf zag zah _ ?s1 zh.out ?s3 HC2.out A25.out).mono ?_);(case s1=>exact sC ze HB);(case s3=>exact sC HR2 HB);rintro e w28 ⟨zao,zap,rfl,ho0,ho1,hb⟩;have zaa:=aM (Kd.R_lower ho0 (below_size (qB1 HB zb)));have zab:=aM (Kd.R_lower ho1 (below_size (qB1 HB zb)));replace za:=bK za hb;replace HB:=bS (qB1 HB zb) hb;(try clear hb);(try clear hk);(try clear hi);(try clear ho0);(try clear ho1))))
  go_ret3
  exact⟨_,_,pE,pR zaa.out,pR zab.out,qB1 HB zb⟩
 rw [ip c4] at H
 have zal:=bT c4
 have zam:=nF c4
 clear c4
 have HC5:=aM H
 clear H
 go_enter Try.func38,Try.ntmps38
 go_upto_region 3 with(first|((with_reducible refine gD 4 rfl ?_);(try (refine gate_guard (by rfl) ?_;dsimp only));refine bX 4 24 (aT ya yd ye yf yg yh yi yj yk yo yb.length yp) ?_;intro zg hg w6 hbox hb;have za:=aM (hbox);have zf:=gE (w:=w) hg (qB HB);have zb:=zf;replace HB:=bS (qB HB) hb;clear hb hbox hg))
 repeat(go_quiet (first|((with_reducible refine gD 4 rfl ?_);(try (refine gate_guard (by rfl) ?_;dsimp only));refine bX 4 24 (aT ya yd ye yf yg yh yi yj yk yo yb.length yp) ?_;intro zg hg w6 hbox hb;have za:=aM (hbox);have zf:=gE (w:=w) hg (qB HB);have zb:=zf;replace HB:=bS (qB HB) hb;clear hb hbox hg));go_upto_region 3 with(first|((with_reducible refine gD 4 rfl ?_);(try (refine gate_guard (by rfl) ?_;dsimp only));refine bX 4 24 (aT ya yd ye yf yg yh yi yj yk yo yb.length yp) ?_;intro zg hg w6 hbox hb;have za:=aM (hbox);have zf:=gE (w:=w) hg (qB HB);have zb:=zf;replace HB:=bS (qB HB) hb;clear hb hbox hg)))
 (try simp only [Act.put,sP])
 go_cut [28] (fun v28 wc=>∃ (kq:Nat) (yq:Bool),v28=.bool yq∧Aside0 (fbe.j0 kq l2 yq ya yd ye yf yg yh yi yj yk yb=some (r1,r2,r3))∧Aside0 (kq≤k)∧Aside0 (wc.heap[zg]?=some (.cells (aT ya yd ye yf yg yh yi yj yk yo yb.length yp) 24 (0,0)))∧Aside0 (Below w.heap.size w wc))
 case first =>
  have H:=HC5.out
  clear HC5
  by_cases c7:ya < 0
  ·rw [ip c7] at H
   have zac:=dT c7
   clear c7
   (first|rw [zac]|(simp only [i64_w,i32_w];rw [zac])|skip)
   have H':=aM H
   clear H
   have hcz8:=blk10 za.out
   go_wp2
   repeat(go_quiet (fail);try go_wp2)
   go_meet
   case rel=>exact⟨_,(true),(pF),H',⟨pO⟩,⟨pK za.out⟩,⟨qB1 HB zb⟩⟩
  rw [iN c7] at H
  have zac:=dF c7
  clear c7
  (first|rw [zac]|(simp only [i64_w,i32_w];rw [zac])|skip)
  have H':=aM H
  clear H
  have hcz9:=blk10 za.out
  go_wp2
  repeat(go_quiet (fail);try go_wp2)
  go_meet
  case rel=>exact⟨_,(decide (ya ≥ (l2.length:Int))),(pF),H',⟨pO⟩,⟨pK za.out⟩,⟨qB1 HB zb⟩⟩
 clear HC5
 try clear c2
 try clear zal
 try clear zam
 obtain⟨kq,yq,rfl,HA,HJ4,za,HB⟩:=hcut
 cases kq with
 | zero=>exact absurd HA.out (by simp [fbe.j0])
 | succ kj4=>?_
 have H:=HA.out
 clear HA
 simp only [fbe.j0] at H
 by_cases c10:yq=true
 ·subst c10
  rw [ip rfl] at H
  replace H:=oi3 H
  obtain⟨rfl,rfl,rfl⟩:=H
  go_wp2
  repeat(go_quiet (fail);try go_wp2)
  go_ret3
  exact⟨_,_,pE,pN,pN,qB1 HB zb⟩
 replace c10:=Bool.eq_false_iff.mpr c10
 subst c10
 rw [iN (show ¬ (false=true) by decide)] at H
 have H':=aM H
 clear H
 have yw:=blk10 za.out
 go_wp2
 repeat(go_quiet (fail);try go_wp2)
 go_loopg [32] kj4 (fun kq v32 w'=>∃ (yc:Int),v32=.int .i64 yc∧Aside0 (fbe.l0 kq l2 (yb.length:Int) yc ya yd ye yf yg yh yi yj yk yb=some (r1,r2,r3))∧Aside0 (kq≤kj4)∧Aside0 (w'.heap[zg]?=some (.cells (aT ya yd ye yf yg yh yi yj yk yo yb.length yp) 24 (0,0)))∧Aside0 (Below w.heap.size w w'))
 case atStart=>exact⟨(0),(pF),H',⟨Nat.le_refl _⟩,⟨pK za.out⟩,⟨qB1 HB zb⟩⟩
 clear H'
 try clear c10
 try clear yw
 obtain⟨yc,rfl,HA,HK2,za,HB⟩:=hrel
 cases gk with
 | zero=>exact absurd HA.out (by simp [fbe.l0])
 | succ k2=>?_
 have H:=HA.out
 clear HA
 simp only [fbe.l0] at H
 by_cases c12:yc < (yb.length:Int)
 rotate_left
 ·rw [iN c12] at H
  have yx:=dF c12
  clear c12
  replace H:=oB H
  obtain⟨⟨zai,zaj,zak⟩,zaq,H⟩:=H
  try dsimp only at H
  have A22:=aM zaq
  clear zaq
  replace H:=oi3 H
  obtain⟨rfl,rfl,rfl⟩:=H
  have hcz23:=blk10 za.out
  go_wp2_with (first|(go_at_call 66;(with_reducible refine(faz.calls k2 _ _ l2 ya _ _ yb zai zaj zak _ ?s1 HC2.out ?s3 zh.out A22.out).mono ?_);(case s1=>exact sC HR2 HB);(case s3=>exact sC ze HB);rintro e w24 ⟨zar,zas,rfl,ho0,ho1,hb⟩;have zad:=aM (Kd.R_lower ho0 (below_size (qB1 HB zb)));have zae:=aM (Kd.R_lower ho1 (below_size (qB1 HB zb)));replace za:=bK za hb;replace HB:=bS (qB1 HB zb) hb;(try clear hb);(try clear hk);(try clear hi);(try clear ho0);(try clear ho1)))
  repeat(go_quiet (first|(go_at_call 66;(with_reducible refine(faz.calls k2 _ _ l2 ya _ _ yb zai zaj zak _ ?s1 HC2.out ?s3 zh.out A22.out).mono ?_);(case s1=>exact sC HR2 HB);(case s3=>exact sC ze HB);rintro e w24 ⟨zar,zas,rfl,ho0,ho1,hb⟩;have zad:=aM (Kd.R_lower ho0 (below_size (qB1 HB zb)));have zae:=aM (Kd.R_lower ho1 (below_size (qB1 HB zb)));replace za:=bK za hb;replace HB:=bS (qB1 HB zb) hb;(try clear hb);(try clear hk);(try clear hi);(try clear ho0);(try clear ho1)));try go_wp2_with (first|(go_at_call 66;(with_reducible refine(faz.calls k2 _ _ l2 ya _ _ yb zai zaj zak _ ?s1 HC2.out ?s3 zh.out A22.out).mono ?_);(case s1=>exact sC HR2 HB);(case s3=>exact sC ze HB);rintro e w24 ⟨zar,zas,rfl,ho0,ho1,hb⟩;have zad:=aM (Kd.R_lower ho0 (below_size (qB1 HB zb)));have zae:=aM (Kd.R_lower ho1 (below_size (qB1 HB zb)));replace za:=bK za hb;replace HB:=bS (qB1 HB zb) hb;(try clear hb);(try clear hk);(try clear hi);(try clear ho0);(try clear ho1))))
  go_ret3
  exact⟨_,_,pE,pR zad.out,pR zae.out,qB1 HB zb⟩
 rw [ip c12] at H
 have yx:=dT c12
 clear c12
 by_cases c13:0≤yc
 rotate_left
 ·rw [iN c13] at H
  cases H
 rw [ip c13] at H
 have c13b0:=dT c13
 clear c13
 by_cases c14:yc < (yb.length:Int)
 rotate_left
 ·rw [iN c14] at H
  cases H
 rw [ip c14] at H
 have c14b0:=dT c14
 clear c14
 by_cases c15:(rd yb yc) < 0
 ·rw [ip c15] at H
  have yy:=dT c15
  clear c15
  replace H:=oi3 H
  obtain⟨rfl,rfl,rfl⟩:=H
  have hcz16:=blk10 za.out
  obtain⟨yr,⟨⟩,yl,yz,y0⟩:=zI ze.out yc
  replace yl:=zW HB yl
  go_wp2
  repeat(go_quiet (fail);try go_wp2)
  go_ret3
  exact⟨_,_,pE,pN,pN,qB1 HB zb⟩
 rw [iN c15] at H
 have yy:=dF c15
 clear c15
 by_cases c17:0≤ya
 rotate_left
 ·rw [iN c17] at H
  cases H
 rw [ip c17] at H
 have c17b0:=dT c17
 clear c17
 by_cases c18:ya < (l2.length:Int)
 rotate_left
 ·rw [iN c18] at H
  cases H
 rw [ip c18] at H
 have c18b0:=dT c18
 clear c18
 by_cases c19:(rd yb yc) ≥ (rd l2 ya)
 ·rw [ip c19] at H
  have y1:decide ((rd l2 ya)≤(rd yb yc))=true:=decide_eq_true c19
  clear c19
  replace H:=oi3 H
  obtain⟨rfl,rfl,rfl⟩:=H
  have hcz20:=blk10 za.out
  obtain⟨yr,⟨⟩,yl,yz,y0⟩:=zI ze.out yc
  replace yl:=zW HB yl
  obtain⟨ys,yv,ym,y3,y4⟩:=zI ze.out yc
  obtain rfl:yr=ys:=(by injection yv)
  replace ym:=zW HB ym
  obtain⟨y2,⟨⟩,yn,y5,y6⟩:=zI HR2.out ya
  replace yn:=zW HB yn
  go_wp2
  repeat(go_quiet (fail);try go_wp2)
  go_ret3
  exact⟨_,_,pE,pN,pN,qB1 HB zb⟩
 rw [iN c19] at H
 have y1:decide ((rd l2 ya)≤(rd yb yc))=false:=decide_eq_false c19
 clear c19
 have H':=aM H
 clear H
 have hcz21:=blk10 za.out
 obtain⟨yr,⟨⟩,yl,yz,y0⟩:=zI ze.out yc
 replace yl:=zW HB yl
 obtain⟨ys,yv,ym,y3,y4⟩:=zI ze.out yc
 obtain rfl:yr=ys:=(by injection yv)
 replace ym:=zW HB ym
 obtain⟨y2,⟨⟩,yn,y5,y6⟩:=zI HR2.out ya
 replace yn:=zW HB yn
 go_wp2
 repeat(go_quiet (fail);try go_wp2)
 go_roundg k2
 case measure=>have:=HJ4.out;have:=HK2.out;omega
 case rel=>exact⟨(wrap64 (yc + 1)),(pF),H',⟨pO2 HJ4 HK2⟩,⟨pK za.out⟩,⟨qB1 HB zb⟩⟩
mutual
def fbb.j0:Nat→Int→List (List Int)→Bool→Int→Int→Int→Int→Int→Int→Int→Int→Bool→List Int→Option (List Int×List Int×List Int×Int)
 | 0,_,_,_,_,_,_,_,_,_,_,_,_,_=>none
 | k + 1,x0,x2,x19,zl,zm,zn,zo,zp,zq,zr,zs,zt,zu=>if x19=true then(some (([]:List Int),([]:List Int),([]:List Int),14))else(if x0=40 then(if(x2.length:Int)=2 then(fbb.j1 k x0 x2 false zl zm zn zo zp zq zr zs zt zu)else(fbb.j1 k x0 x2 true zl zm zn zo zp zq zr zs zt zu))else(fbb.j1 k x0 x2 ((x2.length:Int) != 1) zl zm zn zo zp zq zr zs zt zu))
def fbb.j1:Nat→Int→List (List Int)→Bool→Int→Int→Int→Int→Int→Int→Int→Int→Bool→List Int→Option (List Int×List Int×List Int×Int)
 | 0,_,_,_,_,_,_,_,_,_,_,_,_,_=>none
 | k + 1,x0,x2,x36,zl,zm,zn,zo,zp,zq,zr,zs,zt,zu=>if x36=true then(some (([]:List Int),([]:List Int),([]:List Int),1))else(fbb.l0 k x0 x2 (x2.length:Int) 0 zl zm zn zo zp zq zr zs zt zu)
def fbb.l0:Nat→Int→List (List Int)→Int→Int→Int→Int→Int→Int→Int→Int→Int→Int→Bool→List Int→Option (List Int×List Int×List Int×Int)
 | 0,_,_,_,_,_,_,_,_,_,_,_,_,_,_=>none
 | k + 1,x0,x2,x39,x40,zl,zm,zn,zo,zp,zq,zr,zs,zt,zu=>if x40 < x39 then(if 0≤x40 then(if x40 < (x2.length:Int)then((fag.f k (rd_L1 x2 x40)).bind fun z5=>(if z5=0 then(fbb.l0 k x0 x2 x39 (wrap64 (x40 + 1)) zl zm zn zo zp zq zr zs zt zu)else(some (([]:List Int),([]:List Int),([]:List Int),z5))))else(none))else(none))else(if x0=39 then(if 0 < (x2.length:Int)then((fbd.f k (rd_L1 x2 0) zl zm zn zo zp zq zr zs zt zu).bind fun bt826=>(some (bt826.1,bt826.2.1,bt826.2.2.1,bt826.2.2.2)))else(none))else(if x0=40 then(if 0 < (x2.length:Int)then(if 1 < (x2.length:Int)then((fbc.f k (rd_L1 x2 0) (rd_L1 x2 1) zl).bind fun bt838=>(some (bt838.1,bt838.2.1,bt838.2.2.1,bt838.2.2.2)))else(none))else(none))else(if 0 < (x2.length:Int)then((fbe.f k x0 zl zm zn zo zp zq zr zs zt zu (rd_L1 x2 0)).bind fun bt849=>(if bt849.2.2=0 then(fbb.l1 k (bt849.2.1.length:Int) 0 bt849.1 ([]:List Int) bt849.2.1)else(some (([]:List Int),([]:List Int),([]:List Int),bt849.2.2))))else(none))))
def fbb.l1:Nat→Int→Int→List Int→List Int→List Int→Option (List Int×List Int×List Int×Int)
 | 0,_,_,_,_,_=>none
 | k + 1,x93,x94,zak,z6,zal=>if x94 < x93 then(if z6.length < 17592186044416 then(fbb.l1 k x93 (wrap64 (x94 + 1)) zak (z6 ++ [0]) zal)else(none))else(some (zak,z6,zal,0))
end
def fbb.f (k:Nat) (a0:Int) (yg:Int) (yh:Int) (yi:Int) (yj:Int) (yk:Int) (yl:Int) (ym:Int) (yn:Int) (yo:Bool) (ye:List Int) (l2:List (List Int)):Option (List Int×List Int×List Int×Int):=if a0 < 33 then(fbb.j0 k a0 l2 true yg yh yi yj yk yl ym yn yo ye)else(fbb.j0 k a0 l2 (decide (a0 > 40)) yg yh yi yj yk yl ym yn yo ye)
def fbb.T13:TT:=(true,[([],[]),([0],[0]),([1],[1]),([],[]),([2,3],[2,3]),([4],[4]),([4],[4]),([5,4,0,1,2,3,4,5,6],[5]),([6,7,0,1,2,3,4,5,6,7],[6])])
def fbb.B13:List Nat:=[0,1,3,0,15,31,31,127,255]
theorem fbb.tab13:rtab .any (opsOf Try.f11 13)=fbb.T13:=by kernel_rfl
theorem fbb.bits13:waitsOk fbb.T13.2 fbb.B13=true:=by kernel_rfl
def fbb.T15:TT:=(true,[([],[]),([0],[0]),([1],[1]),([],[]),([3],[3]),([4],[4]),([],[]),([6],[6]),([2,5,7],[2,5,7]),([8],[8]),([8],[8]),([9,8,0,1,2,3,4,5,6,7,8,9,10],[9]),([10,11,0,1,2,3,4,5,6,7,8,9,10,11],[10])])
def fbb.B15:List Nat:=[0,1,3,0,8,24,0,64,255,511,511,2047,4095]
theorem fbb.tab15:rtab .any (opsOf Try.f11 15)=fbb.T15:=by kernel_rfl
theorem fbb.bits15:waitsOk fbb.T15.2 fbb.B15=true:=by kernel_rfl
def fbb.T16:TT:=(true,[([],[]),([],[]),([],[]),([2],[2]),([3],[3]),([0,1,4],[0,1,4]),([5],[5]),([6],[6]),([6],[6]),([6],[6]),([7,5,0,1,2,3,4,5,6,7],[7]),([8,10,0,1,2,3,4,5,6,7,8,10],[8]),([9,11,0,1,2,3,4,5,6,7,8,9,10,11],[9])])
def fbb.B16:List Nat:=[0,0,0,4,12,31,63,127,127,127,255,1535,4095]
theorem fbb.tab16:rtab .any (opsOf Try.f11 16)=fbb.T16:=by kernel_rfl
theorem fbb.bits16:waitsOk fbb.T16.2 fbb.B16=true:=by kernel_rfl
theorem fbb.calls (k:Nat) (a0:Int) (yg:Int) (yh:Int) (yi:Int) (yj:Int) (yk:Int) (yl:Int) (ym:Int) (yn:Int)(yo:Bool)(yt:Option Addr)(yu:Nat)(ye:List Int)(A2:Option Addr)(c2:Nat)(l2:List (List Int))(r1:List Int)(r2:List Int)(r3:List Int) (r4:Int)(w:World)(yaq:Kd.C (Kd.int .i64) w yt ye.length ye)(yar:ye.length≤yu)(hr2:Kd.C (Kd.slice 3 (Kd.int .i64)) w A2 l2.length l2)(hc2:l2.length≤c2)(h:fbb.f k a0 yg yh yi yj yk yl ym yn yo ye l2=some (r1,r2,r3,r4)) :
  Calls Try.prog 11 #[.int .i64 a0,.agg #[.int .i64 yg,.int .i64 yh,.int .i64 yi,.int .i64 yj,.int .i64 yk,.int .i64 yl,.int .i64 ym,.int .i64 yn,.bool yo,.slice yt ye.length yu],.slice A2 l2.length c2] w fun e w'=>∃ v0_ v1_ v2_:Value,e=.returned (.tuple #[.agg #[v0_,v1_,v2_],.int .i64 r4])∧Kd.R (Kd.int .i64) 3 w' w.heap.size (fun k_=>some k_≠(v1_:Value).ownBlock∧some k_≠(v2_:Value).ownBlock) v0_ r1∧Kd.R (Kd.int .i64) 3 w' w.heap.size (fun k_=>some k_≠(v0_:Value).ownBlock∧some k_≠(v2_:Value).ownBlock) v1_ r2∧Kd.R (Kd.int .i64) 3 w' w.heap.size (fun k_=>some k_≠(v0_:Value).ownBlock∧some k_≠(v1_:Value).ownBlock) v2_ r3∧Below w.heap.size w w':=by
 have hu24:=Try.underlying24
 have hu32:=Try.underlying32
 have zaq:=aM yaq
 have zar:=aM yar
 clear yaq yar
 have HR2:=aM hr2
 have HC2:=aM hc2
 clear hr2 hc2
 have HB:=aM (Below.refl w.heap.size w)
 have H:(if a0 < 33 then(fbb.j0 k a0 l2 true yg yh yi yj yk yl ym yn yo ye)else(fbb.j0 k a0 l2 (decide (a0 > 40)) yg yh yi yj yk yl ym yn yo ye))=some (r1,r2,r3,r4):=h
 clear h
 have HC4:=aM H
 clear H
 go_enter Try.func11,Try.ntmps11
 go_upto_region 1 with(first|((with_reducible refine gD 4 rfl ?_);(try (refine gate_guard (by rfl) ?_;dsimp only));refine bX 4 24 (aT yg yh yi yj yk yl ym yn yo yt ye.length yu) ?_;intro ze hg w5 hbox hb;have zb:=aM (hbox);have GW821:=gE (w:=w) hg (qB HB);have zf:=GW821;replace HB:=bS (qB HB) hb;clear hb hbox hg)|((with_reducible refine gD 6 rfl ?_);(try (refine gate_guard (by rfl) ?_;dsimp only));refine bX 6 32 #[.slice none 0 0,.slice none 0 0,.slice none 0 0] ?_;intro zc hg w6 hbox hb;have zd:=aM (hbox);have zg:=gE (w:=w) hg (qB1 HB zf);have zh:=zg;replace HB:=bS (qB1 HB zf) hb;have za:=nL hg zb;have zi:=nG hg zb;replace zb:=bK zb hb;clear hb hbox hg))
 (try simp only [Act.put,sP])
 go_cut [19] (fun v19 wc=>∃ (kq:Nat) (y6:Bool),v19=.bool y6∧Aside0 (fbb.j0 kq a0 l2 y6 yg yh yi yj yk yl ym yn yo ye=some (r1,r2,r3,r4))∧Aside0 (kq≤k)∧Aside0 (wc.heap[ze]?=some (.cells (aT yg yh yi yj yk yl ym yn yo yt ye.length yu) 24 (0,0)))∧Aside0 (wc.heap[zc]?=some (.cells #[(.slice none 0 0),(.slice none 0 0),(.slice none 0 0)] 32 (0,0)))∧Aside0 (Below w.heap.size w wc))
 case first =>
  have H:=HC4.out
  clear HC4
  by_cases c7:a0 < 33
  ·rw [ip c7] at H
   have zas:=dT c7
   clear c7
   (first|rw [zas]|(simp only [i64_w,i32_w];rw [zas])|skip)
   have H':=aM H
   clear H
   go_wp2
   go_meet
   case rel=>exact⟨_,(true),(pF),H',⟨pO⟩,⟨pK zb.out⟩,⟨pK zd.out⟩,⟨qB2 HB zf zh⟩⟩
  rw [iN c7] at H
  have zas:=dF c7
  clear c7
  (first|rw [zas]|(simp only [i64_w,i32_w];rw [zas])|skip)
  have H':=aM H
  clear H
  go_wp2
  go_meet
  case rel=>exact⟨_,(decide (a0 > 40)),(pF),H',⟨pO⟩,⟨pK zb.out⟩,⟨pK zd.out⟩,⟨qB2 HB zf zh⟩⟩
 clear HC4
 try clear c2
 obtain⟨kq,y6,rfl,HA,HJ3,zb,zd,HB⟩:=hcut
 cases kq with
 | zero=>exact absurd HA.out (by simp [fbb.j0])
 | succ kj3=>?_
 have H:=HA.out
 clear HA
 simp only [fbb.j0] at H
 by_cases c8:y6=true
 ·subst c8
  rw [ip rfl] at H
  replace H:=oi4 H
  obtain⟨rfl,rfl,rfl,rfl⟩:=H
  have hnb9:=zi.out
  have hnc9:=za.out
  have hcz10:=blk3 zd.out
  go_wp2
  refine bodyPost_ret (results_ct rfl _ _ zc 32 #[.slice none 0 0,.slice none 0 0,.slice none 0 0] (0,0) _ rfl (by exact P3 zd) Try.underlying32 rfl (by kernel_rfl)) rfl ?_
  exact⟨_,_,_,pE,pN,pN,pN,qB2 HB zf zh⟩
 replace c8:=Bool.eq_false_iff.mpr c8
 subst c8
 rw [iN (show ¬ (false=true) by decide)] at H
 have HC11:=aM H
 clear H
 go_upto_region 3 with(fail)
 go_cut [36] (fun v36 wc=>∃ (kq:Nat) (y3:Bool),v36=.bool y3∧Aside0 (fbb.j1 kq a0 l2 y3 yg yh yi yj yk yl ym yn yo ye=some (r1,r2,r3,r4))∧Aside0 (kq≤kj3)∧Aside0 (wc.heap[ze]?=some (.cells (aT yg yh yi yj yk yl ym yn yo yt ye.length yu) 24 (0,0)))∧Aside0 (wc.heap[zc]?=some (.cells #[(.slice none 0 0),(.slice none 0 0),(.slice none 0 0)] 32 (0,0)))∧Aside0 (Below w.heap.size w wc))
 case first =>
  have H:=HC11.out
  clear HC11
  by_cases c12:a0=40
  rotate_left
  ·rw [iN c12] at H
   have zaa:=bF c12
   have yaw:=nT c12
   (first|rw [zaa]|(simp only [i64_w,i32_w];rw [zaa])|skip)
   have H':=aM H
   clear H
   go_wp2
   go_meet
   case rel=>exact⟨_,(((l2.length:Int) != 1)),(pF),H',⟨pO1 HJ3⟩,⟨pK zb.out⟩,⟨pK zd.out⟩,⟨qB2 HB zf zh⟩⟩
  rw [ip c12] at H
  have zaa:=bT c12
  have yaw:=nF c12
  clear c12
  (first|rw [zaa]|(simp only [i64_w,i32_w];rw [zaa])|skip)
  by_cases c13:(l2.length:Int)=2
  rotate_left
  ·rw [iN c13] at H
   have yax:=bF c13
   have yay:=nT c13
   have H':=aM H
   clear H
   go_wp2
   go_meet
   case rel=>exact⟨_,(true),(pF),H',⟨pO1 HJ3⟩,⟨pK zb.out⟩,⟨pK zd.out⟩,⟨qB2 HB zf zh⟩⟩
  rw [ip c13] at H
  have yax:=bT c13
  have yay:=nF c13
  clear c13
  have H':=aM H
  clear H
  go_wp2
  go_meet
  case rel=>exact⟨_,(false),(pF),H',⟨pO1 HJ3⟩,⟨pK zb.out⟩,⟨pK zd.out⟩,⟨qB2 HB zf zh⟩⟩
 clear HC11
 try clear c8
 obtain⟨kq,y3,rfl,HA,zau,zb,zd,HB⟩:=hcut
 cases kq with
 | zero=>exact absurd HA.out (by simp [fbb.j1])
 | succ zbb=>?_
 have H:=HA.out
 clear HA
 simp only [fbb.j1] at H
 by_cases c14:y3=true
 ·subst c14
  rw [ip rfl] at H
  replace H:=oi4 H
  obtain⟨rfl,rfl,rfl,rfl⟩:=H
  have hnb15:=zi.out
  have hnc15:=za.out
  have hcz16:=blk3 zd.out
  go_wp2
  refine bodyPost_ret (results_ct rfl _ _ zc 32 #[.slice none 0 0,.slice none 0 0,.slice none 0 0] (0,0) _ rfl (by exact P3 zd) Try.underlying32 rfl (by kernel_rfl)) rfl ?_
  exact⟨_,_,_,pE,pN,pN,pN,qB2 HB zf zh⟩
 replace c14:=Bool.eq_false_iff.mpr c14
 subst c14
 rw [iN (show ¬ (false=true) by decide)] at H
 have H':=aM H
 clear H
 go_wp2
 go_loopg [40] zbb (fun kq v40 w'=>∃ (yp:Int),v40=.int .i64 yp∧Aside0 (fbb.l0 kq a0 l2 (l2.length:Int) yp yg yh yi yj yk yl ym yn yo ye=some (r1,r2,r3,r4))∧Aside0 (kq≤zbb)∧Aside0 (w'.heap[ze]?=some (.cells (aT yg yh yi yj yk yl ym yn yo yt ye.length yu) 24 (0,0)))∧Aside0 (w'.heap[zc]?=some (.cells #[(.slice none 0 0),(.slice none 0 0),(.slice none 0 0)] 32 (0,0)))∧Aside0 (Below w.heap.size w w'))
 case atStart=>exact⟨(0),(pF),H',⟨Nat.le_refl _⟩,⟨pK zb.out⟩,⟨pK zd.out⟩,⟨qB2 HB zf zh⟩⟩
 clear H'
 try clear c14
 obtain⟨yp,rfl,HA,HK3,zb,zd,HB⟩:=hrel
 cases gk with
 | zero=>exact absurd HA.out (by simp [fbb.l0])
 | succ k3=>?_
 have H:=HA.out
 clear HA
 simp only [fbb.l0] at H
 by_cases c17:yp < (l2.length:Int)
 ·rw [ip c17] at H
  have zax:=dT c17
  clear c17
  by_cases c18:0≤yp
  rotate_left
  ·rw [iN c18] at H
   cases H
  rw [ip c18] at H
  have c18b0:=dT c18
  clear c18
  by_cases c19:yp < (l2.length:Int)
  rotate_left
  ·rw [iN c19] at H
   cases H
  rw [ip c19] at H
  have c19b0:=dT c19
  clear c19
  replace H:=oB H
  obtain⟨z5,zbc,H⟩:=H
  try dsimp only at H
  have A20:=aM zbc
  clear zbc
  by_cases c21:z5=0
  rotate_left
  ·rw [iN c21] at H
   have yaz:=bF c21
   have ya0:=nT c21
   replace H:=oi4 H
   obtain⟨rfl,rfl,rfl,rfl⟩:=H
   have yas:0≤(yp:Int):=oD
   have yat:yp < (l2.length:Int):=oD
   obtain⟨ya1,y4,y5,yau,yv,yw,yx⟩:=at_L1 HR2.out yp yas yat
   cases yau
   replace yv:=zW HB yv
   have z7:=aM yx
   have z8:=aM yw
   clear yx yw
   go_wp2_with (first|((with_reducible refine gC 30 rfl ?_);refine gL 47 Try.func30 #[.slice y4 (rd_L1 l2 yp).length y5] ?_;(with_reducible refine(fag.calls k3 _ _ (rd_L1 l2 yp) z5 _ ?s1 z8.out A20.out).mono ?_);(case s1=>exact sC z7 HB);rintro e w' ⟨rfl,⟨nd,rfl⟩⟩;refine⟨_,rfl,?_⟩;(try (rw [drewN_self wr];generalize hq_:World.drewN wr _=wr;have n0_:Aside0 (wr.heap[ze]?=some (.cells (aT yg yh yi yj yk yl ym yn yo yt ye.length yu) 24 (0,0))):=⟨by rw [← hq_];exact(pK zb.out)⟩;have n1_:Aside0 (wr.heap[zc]?=some (.cells #[.slice none 0 0,.slice none 0 0,.slice none 0 0] 32 (0,0))):=⟨by rw [← hq_];exact(pK zd.out)⟩;have n2_:Aside0 (Below w.heap.size w wr):=⟨by rw [← hq_];exact(qB2 HB zf zh)⟩;clear zb zd HB hq_;have zb:=n0_;have zd:=n1_;have HB:=n2_;clear n0_ n1_ n2_));have hnb22:=zi.out;have hnc22:=za.out;have hcz23:=blk3 zd.out))
   refine bodyPost_ret (results_ct rfl _ _ zc 32 #[.slice none 0 0,.slice none 0 0,.slice none 0 0] (0,0) _ rfl (by exact P3 zd) Try.underlying32 rfl (by kernel_rfl)) rfl ?_
   exact⟨_,_,_,pE,pN,pN,pN,qB2 HB zf zh⟩
  rw [ip c21] at H
  have yaz:=bT c21
  have ya0:=nF c21
  clear c21
  have H':=aM H
  clear H
  have yas:0≤(yp:Int):=oD
  have yat:yp < (l2.length:Int):=oD
  obtain⟨ya1,y4,y5,yau,yv,yw,yx⟩:=at_L1 HR2.out yp yas yat
  cases yau
  replace yv:=zW HB yv
  have z7:=aM yx
  have z8:=aM yw
  clear yx yw
  go_wp2_with (first|((with_reducible refine gC 30 rfl ?_);refine gL 47 Try.func30 #[.slice y4 (rd_L1 l2 yp).length y5] ?_;(with_reducible refine(fag.calls k3 _ _ (rd_L1 l2 yp) z5 _ ?s1 z8.out A20.out).mono ?_);(case s1=>exact sC z7 HB);rintro e w' ⟨rfl,⟨nd,rfl⟩⟩;refine⟨_,rfl,?_⟩))
  go_roundg k3
  case measure=>have:=HJ3.out;have:=zau.out;have:=HK3.out;omega
  case rel=>exact⟨(wrap64 (yp + 1)),(pF),H',⟨by have:=HJ3.out;have:=zau.out;have:=HK3.out;omega⟩,⟨pK zb.out⟩,⟨pK zd.out⟩,⟨qB2 HB zf zh⟩⟩
 rw [iN c17] at H
 have zax:=dF c17
 clear c17
 by_cases c24:a0=39
 ·rw [ip c24] at H
  have zay:=bT c24
  have zaz:=nF c24
  clear c24
  by_cases c25:0 < (l2.length:Int)
  rotate_left
  ·rw [iN c25] at H
   cases H
  rw [ip c25] at H
  have c25b0:=dT c25
  have c25b1:decide (0 < l2.length)=true:=decide_eq_true (by omega)
  clear c25
  replace H:=oB H
  obtain⟨⟨zbd,zbe,zbf,t835⟩,zbg,H⟩:=H
  try dsimp only at H
  have A26:=aM zbg
  clear zbg
  replace H:=oi4 H
  obtain⟨rfl,rfl,rfl,rfl⟩:=H
  try go_wp2
  replace zb:=aM (blk_drew zb.out)
  replace zd:=aM (blk_drew zd.out)
  replace HB:=aM (below_drew1 HB.out)
  have ya8:0≤(0:Int):=(by omega)
  have ya9:0 < (l2.length:Int):=oD
  obtain⟨ya2,yae,yaf,yba,yq,y7,y8⟩:=at_L1 HR2.out 0 ya8 ya9
  have ya:=yq
  (try rw [show ((0:Int)).toNat=0 from rfl] at ya)
  (try rw [show 0 * 1=0 from rfl] at ya)
  (try rw [Addr.add_zero'] at ya)
  cases yba
  have qi825:(0 < l2.length)=True:=eq_true (by omega)
  (try rw [show ((0:Int)).toNat=0 from rfl] at yq)
  (try rw [Addr.add_zero'] at yq)
  replace yq:=zW HB yq
  have zam:=aM y8
  have yal:=aM y7
  clear y8 y7
  refine sT 9 [] (fun w'=>w'.cell? ⟨ze,0,none⟩=some (.int .i64 yg)∧w'.cell? ⟨ze,1,none⟩=some (.int .i64 yh)∧w'.cell? ⟨ze,2,none⟩=some (.int .i64 yi)∧w'.cell? ⟨ze,3,none⟩=some (.int .i64 yj)∧w'.cell? ⟨ze,4,none⟩=some (.int .i64 yk)∧w'.cell? ⟨ze,5,none⟩=some (.int .i64 yl)∧w'.cell? ⟨ze,6,none⟩=some (.int .i64 ym)∧w'.cell? ⟨ze,7,none⟩=some (.int .i64 yn)∧w'.cell? ⟨ze,8,none⟩=some (.bool yo)∧w'.cell? ⟨ze,9,none⟩=some (.slice yt ye.length yu)∧w'.cell? ya2=some (.slice yae (rd_L1 l2 0).length yaf)) fbb.tab13 fbb.bits13 (c10 zb (zW HB ya)) (fun hHeld HT_ HW_=>?_)
  generalize wr.drew=w27 at zb zd HB zam yq hHeld ⊢
  refine pQ 0 55 9 1 HT_ ?_
  refine pQ 1 56 9 3 HT_ ?_
  refine pU11 2 57 9 7 HT_ HW_ hHeld ?_
  refine pU11 3 58 9 15 HT_ HW_ hHeld ?_
  refine oN 4 59 9 31 HT_ (fun K hK=>?_)
  refine gS Try.func36 #[.slice yae (rd_L1 l2 0).length yaf,.agg (aT yg yh yi yj yk yl ym yn yo yt ye.length yu)] ?_
  with_reducible refine(fbd.calls k3 _ _ (rd_L1 l2 0) yg yh yi yj yk yl ym yn yo _ _ ye zbd zbe zbf t835 _ ?s1 yal.out ?s3 zar.out A26.out).mono ?_
  (case s1=>exact sC zam HB)
  (case s3=>exact sC zaq HB)
  rintro e w28 ⟨v827,v830,v833,rfl,ho0,ho1,ho2,hb⟩
  refine⟨_,rfl,?_⟩
  have za0:=aM (Kd.R_lower ho0 (below_size (qB2 HB zf zh)))
  have za1:=aM (Kd.R_lower ho1 (below_size (qB2 HB zf zh)))
  have za2:=aM (Kd.R_lower ho2 (below_size (qB2 HB zf zh)))
  replace zb:=bK zb hb
  replace zd:=bK zd hb
  replace HB:=bS (qB2 HB zf zh) hb
  (try clear hb)
  (try clear ho0)
  (try clear ho1)
  (try clear ho2)
  obtain⟨ybb,ybc,zbh⟩:=Kd.R_slice za0.out
  (first|subst zbh|(injection zbh with f1_ f2_ f3_;have f4_:=f1_.symm;have f5_:=f3_.symm;clear f1_ f2_ f3_;subst f4_;subst f5_))
  obtain⟨ybd,ybe,zbi⟩:=Kd.R_slice za1.out
  (first|subst zbi|(injection zbi with f1_ f2_ f3_;have f4_:=f1_.symm;have f5_:=f3_.symm;clear f1_ f2_ f3_;subst f4_;subst f5_))
  obtain⟨ybf,ybg,zbj⟩:=Kd.R_slice za2.out
  (first|subst zbj|(injection zbj with f1_ f2_ f3_;have f4_:=f1_.symm;have f5_:=f3_.symm;clear f1_ f2_ f3_;subst f4_;subst f5_))
  refine hK.out _ _ (c10 zb (zW HB ya)) (fun hHeld=>?_)
  clear hK K
  refine norm_ (a':=?_) ?_ ?_
  rotate_left
  ·show Act.put _ (some 59) _=_
   simp only [Act.put,sP,i64_w,i32_w]
   rfl
  refine pQ 5 60 9 63 HT_ ?_
  refine pQ 6 61 9 127 HT_ ?_
  refine one_ (i:=7) (N:=none) (bm 9 255) rfl rfl (one_of HT_.out (by kernel_rfl)) (by decide) (fun K hK=>?_)
  have hs30:w28.cell? ⟨zc,0,none⟩=some (.slice none 0 0):=(blk_cell zd.out 0).trans rfl
  have hfs30:=blk_frozen zd.out 0
  have hns30_0:=za.out
  have hms30_0:=zi.out
  have hs32:w28.cell? ⟨zc,1,none⟩=some (.slice none 0 0):=(blk_cell zd.out 1).trans rfl
  have hfs32:=blk_frozen zd.out 1
  have hns32_0:=za.out
  have hms32_0:=zi.out
  have hs34:w28.cell? ⟨zc,2,none⟩=some (.slice none 0 0):=(blk_cell zd.out 2).trans rfl
  have hfs34:=blk_frozen zd.out 2
  have hns34_0:=za.out
  have hms34_0:=zi.out
  refine skip_ (w1:=?_) (by rfl) rfl ?_ ?_
  rotate_left
  ·go_simp
   rfl
  refine hK.out _ _ ⟨((cell_far (p:=⟨zc,_,none⟩) za.out _).trans (((cell_far (p:=⟨zc,_,none⟩) za.out _).trans (((cell_far (p:=⟨zc,_,none⟩) za.out _).trans (hHeld.1)))))),((cell_far (p:=⟨zc,_,none⟩) za.out _).trans (((cell_far (p:=⟨zc,_,none⟩) za.out _).trans (((cell_far (p:=⟨zc,_,none⟩) za.out _).trans (hHeld.2.1)))))),((cell_far (p:=⟨zc,_,none⟩) za.out _).trans (((cell_far (p:=⟨zc,_,none⟩) za.out _).trans (((cell_far (p:=⟨zc,_,none⟩) za.out _).trans (hHeld.2.2.1)))))),((cell_far (p:=⟨zc,_,none⟩) za.out _).trans (((cell_far (p:=⟨zc,_,none⟩) za.out _).trans (((cell_far (p:=⟨zc,_,none⟩) za.out _).trans (hHeld.2.2.2.1)))))),((cell_far (p:=⟨zc,_,none⟩) za.out _).trans (((cell_far (p:=⟨zc,_,none⟩) za.out _).trans (((cell_far (p:=⟨zc,_,none⟩) za.out _).trans (hHeld.2.2.2.2.1)))))),((cell_far (p:=⟨zc,_,none⟩) za.out _).trans (((cell_far (p:=⟨zc,_,none⟩) za.out _).trans (((cell_far (p:=⟨zc,_,none⟩) za.out _).trans (hHeld.2.2.2.2.2.1)))))),((cell_far (p:=⟨zc,_,none⟩) za.out _).trans (((cell_far (p:=⟨zc,_,none⟩) za.out _).trans (((cell_far (p:=⟨zc,_,none⟩) za.out _).trans (hHeld.2.2.2.2.2.2.1)))))),((cell_far (p:=⟨zc,_,none⟩) za.out _).trans (((cell_far (p:=⟨zc,_,none⟩) za.out _).trans (((cell_far (p:=⟨zc,_,none⟩) za.out _).trans (hHeld.2.2.2.2.2.2.2.1)))))),((cell_far (p:=⟨zc,_,none⟩) za.out _).trans (((cell_far (p:=⟨zc,_,none⟩) za.out _).trans (((cell_far (p:=⟨zc,_,none⟩) za.out _).trans (hHeld.2.2.2.2.2.2.2.2.1)))))),((cell_far (p:=⟨zc,_,none⟩) za.out _).trans (((cell_far (p:=⟨zc,_,none⟩) za.out _).trans (((cell_far (p:=⟨zc,_,none⟩) za.out _).trans (hHeld.2.2.2.2.2.2.2.2.2.1)))))),((cell_far (p:=⟨zc,_,none⟩) (by first|exact Nat.ne_of_lt (Nat.lt_of_lt_of_le (by have:=World.block_lt_of_cell? _ _ ya;first|rwa [add_block] at this|exact this) zg.out)|(rw [add_block];exact Nat.ne_of_lt (Nat.lt_of_lt_of_le (by have:=World.block_lt_of_cell? _ _ ya;first|rwa [add_block] at this|exact this) zg.out))|(show (Addr.add _ _).block≠_;rw [add_block];exact Nat.ne_of_lt (Nat.lt_of_lt_of_le (by have:=World.block_lt_of_cell? _ _ ya;first|rwa [add_block] at this|exact this) zg.out))|(dsimp only;exact Nat.ne_of_lt (Nat.lt_of_lt_of_le (by have:=World.block_lt_of_cell? _ _ ya;first|rwa [add_block] at this|exact this) zg.out))) _).trans (((cell_far (p:=⟨zc,_,none⟩) (by first|exact Nat.ne_of_lt (Nat.lt_of_lt_of_le (by have:=World.block_lt_of_cell? _ _ ya;first|rwa [add_block] at this|exact this) zg.out)|(rw [add_block];exact Nat.ne_of_lt (Nat.lt_of_lt_of_le (by have:=World.block_lt_of_cell? _ _ ya;first|rwa [add_block] at this|exact this) zg.out))|(show (Addr.add _ _).block≠_;rw [add_block];exact Nat.ne_of_lt (Nat.lt_of_lt_of_le (by have:=World.block_lt_of_cell? _ _ ya;first|rwa [add_block] at this|exact this) zg.out))|(dsimp only;exact Nat.ne_of_lt (Nat.lt_of_lt_of_le (by have:=World.block_lt_of_cell? _ _ ya;first|rwa [add_block] at this|exact this) zg.out))) _).trans (((cell_far (p:=⟨zc,_,none⟩) (by first|exact Nat.ne_of_lt (Nat.lt_of_lt_of_le (by have:=World.block_lt_of_cell? _ _ ya;first|rwa [add_block] at this|exact this) zg.out)|(rw [add_block];exact Nat.ne_of_lt (Nat.lt_of_lt_of_le (by have:=World.block_lt_of_cell? _ _ ya;first|rwa [add_block] at this|exact this) zg.out))|(show (Addr.add _ _).block≠_;rw [add_block];exact Nat.ne_of_lt (Nat.lt_of_lt_of_le (by have:=World.block_lt_of_cell? _ _ ya;first|rwa [add_block] at this|exact this) zg.out))|(dsimp only;exact Nat.ne_of_lt (Nat.lt_of_lt_of_le (by have:=World.block_lt_of_cell? _ _ ya;first|rwa [add_block] at this|exact this) zg.out))) _).trans (hHeld.2.2.2.2.2.2.2.2.2.2))))))⟩ (fun hHeld=>?_)
  clear hK K
  refine pQ 8 7 9 511 HT_ ?_
  refine dN HT_ ?_
  try go_wp2
  refine bodyPost_ret (results_ct rfl _ _ zc 32 #[.slice ybb zbd.length ybc,.slice ybd zbe.length ybe,.slice ybf zbf.length ybg] (0,0) _ rfl (by exact P3 zd) Try.underlying32 rfl (by kernel_rfl)) rfl ?_
  exact⟨_,_,_,pE,by(with_reducible repeat(first|apply rA|apply rN|apply rD));exact F3 za0 zd (fun _ hk=>⟨hk.1.1,hk.1.2⟩),by(with_reducible repeat(first|apply rA|apply rN|apply rD));exact F3 za1 zd (fun _ hk=>⟨hk.1.1,hk.1.2⟩),by(with_reducible repeat(first|apply rA|apply rN|apply rD));exact F3 za2 zd (fun _ hk=>⟨hk.1.1,hk.1.2⟩),qB2 HB zf zh⟩
 rw [iN c24] at H
 have zay:=bF c24
 have zaz:=nT c24
 by_cases c35:a0=40
 ·rw [ip c35] at H
  have za3:=bT c35
  have za4:=nF c35
  clear c35
  by_cases c36:0 < (l2.length:Int)
  rotate_left
  ·rw [iN c36] at H
   cases H
  rw [ip c36] at H
  have c36b0:=dT c36
  have c36b1:decide (0 < l2.length)=true:=decide_eq_true (by omega)
  clear c36
  by_cases c37:1 < (l2.length:Int)
  rotate_left
  ·rw [iN c37] at H
   cases H
  rw [ip c37] at H
  have c37b0:=dT c37
  have c37b1:decide (1 < l2.length)=true:=decide_eq_true (by omega)
  clear c37
  replace H:=oB H
  obtain⟨⟨zbk,zbl,zbm,t847⟩,zbn,H⟩:=H
  try dsimp only at H
  have A38:=aM zbn
  clear zbn
  replace H:=oi4 H
  obtain⟨rfl,rfl,rfl,rfl⟩:=H
  try go_wp2
  replace zb:=aM (blk_drew zb.out)
  replace zd:=aM (blk_drew zd.out)
  replace HB:=aM (below_drew1 HB.out)
  have ybh:0≤(0:Int):=(by omega)
  have ybi:0 < (l2.length:Int):=oD
  obtain⟨y9,yag,yah,ybj,yr,yaa,yab⟩:=at_L1 HR2.out 0 ybh ybi
  have yb:=yr
  (try rw [show ((0:Int)).toNat=0 from rfl] at yb)
  (try rw [show 0 * 1=0 from rfl] at yb)
  (try rw [Addr.add_zero'] at yb)
  cases ybj
  have qi836:(0 < l2.length)=True:=eq_true (by omega)
  (try rw [show ((0:Int)).toNat=0 from rfl] at yr)
  (try rw [Addr.add_zero'] at yr)
  replace yr:=zW HB yr
  have zan:=aM yab
  have yam:=aM yaa
  clear yab yaa
  have ybk:0≤(1:Int):=(by omega)
  have ybl:1 < (l2.length:Int):=oD
  obtain⟨ya3,yai,yaj,ybm,ys,yac,yad⟩:=at_L1 HR2.out 1 ybk ybl
  have yc:=ys
  (try rw [show ((1:Int)).toNat=1 from rfl] at yc)
  (try rw [show 1 * 1=1 from rfl] at yc)
  (try simp only [Nat.reduceMul,Nat.reduceEqDiff,Go.Addr.add,↓reduceIte] at yc)
  obtain rfl:y9=ya3:=(by injection ybm)
  (try simp only [show (1:Int).toNat=1 from rfl,Nat.reduceMul,Nat.reduceEqDiff,Go.Addr.add,↓reduceIte] at ys)
  have qi837:(1 < l2.length)=True:=eq_true (by omega)
  (try rw [show ((1:Int)).toNat=1 from rfl] at ys)
  replace ys:=zW HB ys
  have zao:=aM yad
  have yan:=aM yac
  clear yad yac
  refine sT 13 [] (fun w'=>w'.cell? ⟨ze,0,none⟩=some (.int .i64 yg)∧w'.cell? ⟨ze,1,none⟩=some (.int .i64 yh)∧w'.cell? ⟨ze,2,none⟩=some (.int .i64 yi)∧w'.cell? ⟨ze,3,none⟩=some (.int .i64 yj)∧w'.cell? ⟨ze,4,none⟩=some (.int .i64 yk)∧w'.cell? ⟨ze,5,none⟩=some (.int .i64 yl)∧w'.cell? ⟨ze,6,none⟩=some (.int .i64 ym)∧w'.cell? ⟨ze,7,none⟩=some (.int .i64 yn)∧w'.cell? ⟨ze,8,none⟩=some (.bool yo)∧w'.cell? ⟨ze,9,none⟩=some (.slice yt ye.length yu)∧w'.cell? y9=some (.slice yag (rd_L1 l2 0).length yah)∧w'.cell? ⟨y9.block,y9.off + 1,none⟩=some (.slice yai (rd_L1 l2 1).length yaj)) fbb.tab15 fbb.bits15 (c10 zb ⟨(zW HB yb),(zW HB yc)⟩) (fun hHeld HT_ HW_=>?_)
  generalize wr.drew=w39 at zb zd HB zan zao yr ys hHeld ⊢
  refine pQ 0 64 13 1 HT_ ?_
  refine pQ 1 65 13 3 HT_ ?_
  refine pQ 3 67 13 11 HT_ ?_
  refine pQ 4 68 13 27 HT_ ?_
  refine pQ 6 70 13 91 HT_ ?_
  refine pU12 2 66 13 95 HT_ HW_ hHeld ?_
  refine pU12 5 69 13 127 HT_ HW_ hHeld ?_
  refine pU12 7 71 13 255 HT_ HW_ hHeld ?_
  refine oN 8 72 13 511 HT_ (fun K hK=>?_)
  refine gS Try.func37 #[.slice yag (rd_L1 l2 0).length yah,.slice yai (rd_L1 l2 1).length yaj,.int .i64 yg] ?_
  with_reducible refine(fbc.calls k3 _ _ (rd_L1 l2 0) _ _ (rd_L1 l2 1) yg zbk zbl zbm t847 _ ?s1 yam.out ?s3 yan.out A38.out).mono ?_
  (case s1=>exact sC zan HB)
  (case s3=>exact sC zao HB)
  rintro e w40 ⟨v839,v842,v845,rfl,ho0,ho1,ho2,hb⟩
  refine⟨_,rfl,?_⟩
  have za5:=aM (Kd.R_lower ho0 (below_size (qB2 HB zf zh)))
  have za6:=aM (Kd.R_lower ho1 (below_size (qB2 HB zf zh)))
  have za7:=aM (Kd.R_lower ho2 (below_size (qB2 HB zf zh)))
  replace zb:=bK zb hb
  replace zd:=bK zd hb
  replace HB:=bS (qB2 HB zf zh) hb
  (try clear hb)
  (try clear ho0)
  (try clear ho1)
  (try clear ho2)
  obtain⟨ybn,ybo,zbo⟩:=Kd.R_slice za5.out
  (first|subst zbo|(injection zbo with f1_ f2_ f3_;have f4_:=f1_.symm;have f5_:=f3_.symm;clear f1_ f2_ f3_;subst f4_;subst f5_))
  obtain⟨ybp,ybq,zbp⟩:=Kd.R_slice za6.out
  (first|subst zbp|(injection zbp with f1_ f2_ f3_;have f4_:=f1_.symm;have f5_:=f3_.symm;clear f1_ f2_ f3_;subst f4_;subst f5_))
  obtain⟨ybr,ybs,zbq⟩:=Kd.R_slice za7.out
  (first|subst zbq|(injection zbq with f1_ f2_ f3_;have f4_:=f1_.symm;have f5_:=f3_.symm;clear f1_ f2_ f3_;subst f4_;subst f5_))
  refine hK.out _ _ (c10 zb ⟨(zW HB yb),(zW HB yc)⟩) (fun hHeld=>?_)
  clear hK K
  refine norm_ (a':=?_) ?_ ?_
  rotate_left
  ·show Act.put _ (some 72) _=_
   simp only [Act.put,sP,i64_w,i32_w]
   rfl
  refine pQ 9 73 13 1023 HT_ ?_
  refine pQ 10 74 13 2047 HT_ ?_
  refine one_ (i:=11) (N:=none) (bm 13 4095) rfl rfl (one_of HT_.out (by kernel_rfl)) (by decide) (fun K hK=>?_)
  have hs42:w40.cell? ⟨zc,0,none⟩=some (.slice none 0 0):=(blk_cell zd.out 0).trans rfl
  have hfs42:=blk_frozen zd.out 0
  have hns42_0:=za.out
  have hms42_0:=zi.out
  have hs44:w40.cell? ⟨zc,1,none⟩=some (.slice none 0 0):=(blk_cell zd.out 1).trans rfl
  have hfs44:=blk_frozen zd.out 1
  have hns44_0:=za.out
  have hms44_0:=zi.out
  have hs46:w40.cell? ⟨zc,2,none⟩=some (.slice none 0 0):=(blk_cell zd.out 2).trans rfl
  have hfs46:=blk_frozen zd.out 2
  have hns46_0:=za.out
  have hms46_0:=zi.out
  refine skip_ (w1:=?_) (by rfl) rfl ?_ ?_
  rotate_left
  ·go_simp
   rfl
  refine hK.out _ _ ⟨((cell_far (p:=⟨zc,_,none⟩) za.out _).trans (((cell_far (p:=⟨zc,_,none⟩) za.out _).trans (((cell_far (p:=⟨zc,_,none⟩) za.out _).trans (hHeld.1)))))),((cell_far (p:=⟨zc,_,none⟩) za.out _).trans (((cell_far (p:=⟨zc,_,none⟩) za.out _).trans (((cell_far (p:=⟨zc,_,none⟩) za.out _).trans (hHeld.2.1)))))),((cell_far (p:=⟨zc,_,none⟩) za.out _).trans (((cell_far (p:=⟨zc,_,none⟩) za.out _).trans (((cell_far (p:=⟨zc,_,none⟩) za.out _).trans (hHeld.2.2.1)))))),((cell_far (p:=⟨zc,_,none⟩) za.out _).trans (((cell_far (p:=⟨zc,_,none⟩) za.out _).trans (((cell_far (p:=⟨zc,_,none⟩) za.out _).trans (hHeld.2.2.2.1)))))),((cell_far (p:=⟨zc,_,none⟩) za.out _).trans (((cell_far (p:=⟨zc,_,none⟩) za.out _).trans (((cell_far (p:=⟨zc,_,none⟩) za.out _).trans (hHeld.2.2.2.2.1)))))),((cell_far (p:=⟨zc,_,none⟩) za.out _).trans (((cell_far (p:=⟨zc,_,none⟩) za.out _).trans (((cell_far (p:=⟨zc,_,none⟩) za.out _).trans (hHeld.2.2.2.2.2.1)))))),((cell_far (p:=⟨zc,_,none⟩) za.out _).trans (((cell_far (p:=⟨zc,_,none⟩) za.out _).trans (((cell_far (p:=⟨zc,_,none⟩) za.out _).trans (hHeld.2.2.2.2.2.2.1)))))),((cell_far (p:=⟨zc,_,none⟩) za.out _).trans (((cell_far (p:=⟨zc,_,none⟩) za.out _).trans (((cell_far (p:=⟨zc,_,none⟩) za.out _).trans (hHeld.2.2.2.2.2.2.2.1)))))),((cell_far (p:=⟨zc,_,none⟩) za.out _).trans (((cell_far (p:=⟨zc,_,none⟩) za.out _).trans (((cell_far (p:=⟨zc,_,none⟩) za.out _).trans (hHeld.2.2.2.2.2.2.2.2.1)))))),((cell_far (p:=⟨zc,_,none⟩) za.out _).trans (((cell_far (p:=⟨zc,_,none⟩) za.out _).trans (((cell_far (p:=⟨zc,_,none⟩) za.out _).trans (hHeld.2.2.2.2.2.2.2.2.2.1)))))),((cell_far (p:=⟨zc,_,none⟩) (by first|exact Nat.ne_of_lt (Nat.lt_of_lt_of_le (by have:=World.block_lt_of_cell? _ _ yb;first|rwa [add_block] at this|exact this) zg.out)|(rw [add_block];exact Nat.ne_of_lt (Nat.lt_of_lt_of_le (by have:=World.block_lt_of_cell? _ _ yb;first|rwa [add_block] at this|exact this) zg.out))|(show (Addr.add _ _).block≠_;rw [add_block];exact Nat.ne_of_lt (Nat.lt_of_lt_of_le (by have:=World.block_lt_of_cell? _ _ yb;first|rwa [add_block] at this|exact this) zg.out))|(dsimp only;exact Nat.ne_of_lt (Nat.lt_of_lt_of_le (by have:=World.block_lt_of_cell? _ _ yb;first|rwa [add_block] at this|exact this) zg.out))) _).trans (((cell_far (p:=⟨zc,_,none⟩) (by first|exact Nat.ne_of_lt (Nat.lt_of_lt_of_le (by have:=World.block_lt_of_cell? _ _ yb;first|rwa [add_block] at this|exact this) zg.out)|(rw [add_block];exact Nat.ne_of_lt (Nat.lt_of_lt_of_le (by have:=World.block_lt_of_cell? _ _ yb;first|rwa [add_block] at this|exact this) zg.out))|(show (Addr.add _ _).block≠_;rw [add_block];exact Nat.ne_of_lt (Nat.lt_of_lt_of_le (by have:=World.block_lt_of_cell? _ _ yb;first|rwa [add_block] at this|exact this) zg.out))|(dsimp only;exact Nat.ne_of_lt (Nat.lt_of_lt_of_le (by have:=World.block_lt_of_cell? _ _ yb;first|rwa [add_block] at this|exact this) zg.out))) _).trans (((cell_far (p:=⟨zc,_,none⟩) (by first|exact Nat.ne_of_lt (Nat.lt_of_lt_of_le (by have:=World.block_lt_of_cell? _ _ yb;first|rwa [add_block] at this|exact this) zg.out)|(rw [add_block];exact Nat.ne_of_lt (Nat.lt_of_lt_of_le (by have:=World.block_lt_of_cell? _ _ yb;first|rwa [add_block] at this|exact this) zg.out))|(show (Addr.add _ _).block≠_;rw [add_block];exact Nat.ne_of_lt (Nat.lt_of_lt_of_le (by have:=World.block_lt_of_cell? _ _ yb;first|rwa [add_block] at this|exact this) zg.out))|(dsimp only;exact Nat.ne_of_lt (Nat.lt_of_lt_of_le (by have:=World.block_lt_of_cell? _ _ yb;first|rwa [add_block] at this|exact this) zg.out))) _).trans (hHeld.2.2.2.2.2.2.2.2.2.2.1)))))),((cell_far (p:=⟨zc,_,none⟩) (by first|exact Nat.ne_of_lt (Nat.lt_of_lt_of_le (by have:=World.block_lt_of_cell? _ _ yc;first|rwa [add_block] at this|exact this) zg.out)|(rw [add_block];exact Nat.ne_of_lt (Nat.lt_of_lt_of_le (by have:=World.block_lt_of_cell? _ _ yc;first|rwa [add_block] at this|exact this) zg.out))|(show (Addr.add _ _).block≠_;rw [add_block];exact Nat.ne_of_lt (Nat.lt_of_lt_of_le (by have:=World.block_lt_of_cell? _ _ yc;first|rwa [add_block] at this|exact this) zg.out))|(dsimp only;exact Nat.ne_of_lt (Nat.lt_of_lt_of_le (by have:=World.block_lt_of_cell? _ _ yc;first|rwa [add_block] at this|exact this) zg.out))) _).trans (((cell_far (p:=⟨zc,_,none⟩) (by first|exact Nat.ne_of_lt (Nat.lt_of_lt_of_le (by have:=World.block_lt_of_cell? _ _ yc;first|rwa [add_block] at this|exact this) zg.out)|(rw [add_block];exact Nat.ne_of_lt (Nat.lt_of_lt_of_le (by have:=World.block_lt_of_cell? _ _ yc;first|rwa [add_block] at this|exact this) zg.out))|(show (Addr.add _ _).block≠_;rw [add_block];exact Nat.ne_of_lt (Nat.lt_of_lt_of_le (by have:=World.block_lt_of_cell? _ _ yc;first|rwa [add_block] at this|exact this) zg.out))|(dsimp only;exact Nat.ne_of_lt (Nat.lt_of_lt_of_le (by have:=World.block_lt_of_cell? _ _ yc;first|rwa [add_block] at this|exact this) zg.out))) _).trans (((cell_far (p:=⟨zc,_,none⟩) (by first|exact Nat.ne_of_lt (Nat.lt_of_lt_of_le (by have:=World.block_lt_of_cell? _ _ yc;first|rwa [add_block] at this|exact this) zg.out)|(rw [add_block];exact Nat.ne_of_lt (Nat.lt_of_lt_of_le (by have:=World.block_lt_of_cell? _ _ yc;first|rwa [add_block] at this|exact this) zg.out))|(show (Addr.add _ _).block≠_;rw [add_block];exact Nat.ne_of_lt (Nat.lt_of_lt_of_le (by have:=World.block_lt_of_cell? _ _ yc;first|rwa [add_block] at this|exact this) zg.out))|(dsimp only;exact Nat.ne_of_lt (Nat.lt_of_lt_of_le (by have:=World.block_lt_of_cell? _ _ yc;first|rwa [add_block] at this|exact this) zg.out))) _).trans (hHeld.2.2.2.2.2.2.2.2.2.2.2))))))⟩ (fun hHeld=>?_)
  clear hK K
  refine pQ 12 7 13 8191 HT_ ?_
  refine dN HT_ ?_
  try go_wp2
  refine bodyPost_ret (results_ct rfl _ _ zc 32 #[.slice ybn zbk.length ybo,.slice ybp zbl.length ybq,.slice ybr zbm.length ybs] (0,0) _ rfl (by exact P3 zd) Try.underlying32 rfl (by kernel_rfl)) rfl ?_
  exact⟨_,_,_,pE,by(with_reducible repeat(first|apply rA|apply rN|apply rD));exact F3 za5 zd (fun _ hk=>⟨hk.1.1,hk.1.2⟩),by(with_reducible repeat(first|apply rA|apply rN|apply rD));exact F3 za6 zd (fun _ hk=>⟨hk.1.1,hk.1.2⟩),by(with_reducible repeat(first|apply rA|apply rN|apply rD));exact F3 za7 zd (fun _ hk=>⟨hk.1.1,hk.1.2⟩),qB2 HB zf zh⟩
 rw [iN c35] at H
 have za3:=bF c35
 have za4:=nT c35
 by_cases c47:0 < (l2.length:Int)
 rotate_left
 ·rw [iN c47] at H
  cases H
 rw [ip c47] at H
 have ya4:=dT c47
 have ya5:decide (0 < l2.length)=true:=decide_eq_true (by omega)
 clear c47
 replace H:=oB H
 obtain⟨⟨z2,z0,zaj⟩,zbr,H⟩:=H
 try dsimp only at H
 have A48:=aM zbr
 clear zbr
 by_cases c49:zaj=0
 rotate_left
 ·rw [iN c49] at H
  have za8:=bF c49
  have za9:=nT c49
  replace H:=oi4 H
  obtain⟨rfl,rfl,rfl,rfl⟩:=H
  try go_wp2
  replace zb:=aM (blk_drew zb.out)
  replace zd:=aM (blk_drew zd.out)
  replace HB:=aM (below_drew1 HB.out)
  have yao:0≤(0:Int):=(by omega)
  have yap:0 < (l2.length:Int):=oD
  obtain⟨yak,y0,y1,yav,yd,yy,yz⟩:=at_L1 HR2.out 0 yao yap
  have yf:=yd
  (try rw [show ((0:Int)).toNat=0 from rfl] at yf)
  (try rw [show 0 * 1=0 from rfl] at yf)
  (try rw [Addr.add_zero'] at yf)
  cases yav
  have qi848:(0 < l2.length)=True:=eq_true (by omega)
  (try rw [show ((0:Int)).toNat=0 from rfl] at yd)
  (try rw [Addr.add_zero'] at yd)
  replace yd:=zW HB yd
  have z1:=aM yz
  have z9:=aM yy
  clear yz yy
  refine sT 13 [] (fun w'=>w'.cell? ⟨ze,0,none⟩=some (.int .i64 yg)∧w'.cell? ⟨ze,1,none⟩=some (.int .i64 yh)∧w'.cell? ⟨ze,2,none⟩=some (.int .i64 yi)∧w'.cell? ⟨ze,3,none⟩=some (.int .i64 yj)∧w'.cell? ⟨ze,4,none⟩=some (.int .i64 yk)∧w'.cell? ⟨ze,5,none⟩=some (.int .i64 yl)∧w'.cell? ⟨ze,6,none⟩=some (.int .i64 ym)∧w'.cell? ⟨ze,7,none⟩=some (.int .i64 yn)∧w'.cell? ⟨ze,8,none⟩=some (.bool yo)∧w'.cell? ⟨ze,9,none⟩=some (.slice yt ye.length yu)∧w'.cell? yak=some (.slice y0 (rd_L1 l2 0).length y1)) fbb.tab16 fbb.bits16 (c10 zb (zW HB yf)) (fun hHeld HT_ HW_=>?_)
  generalize wr.drew=w72 at zb zd HB z1 yd hHeld ⊢
  refine pQ 0 76 13 1 HT_ ?_
  refine pQ 2 78 13 5 HT_ ?_
  refine pQ 3 79 13 13 HT_ ?_
  refine pU11 1 77 13 15 HT_ HW_ hHeld ?_
  refine pU11 4 80 13 31 HT_ HW_ hHeld ?_
  refine oN 5 81 13 63 HT_ (fun K hK=>?_)
  refine gS Try.func38 #[.int .i64 a0,.agg (aT yg yh yi yj yk yl ym yn yo yt ye.length yu),.slice y0 (rd_L1 l2 0).length y1] ?_
  with_reducible refine(fbe.calls k3 a0 yg yh yi yj yk yl ym yn yo _ _ ye _ _ (rd_L1 l2 0) z2 z0 zaj _ ?s1 zar.out ?s3 z9.out A48.out).mono ?_
  (case s1=>exact sC zaq HB)
  (case s3=>exact sC z1 HB)
  rintro e w73 ⟨v850,v853,rfl,ho0,ho1,hb⟩
  refine⟨_,rfl,?_⟩
  have zab:=aM (Kd.R_lower ho0 (below_size (qB2 HB zf zh)))
  have zac:=aM (Kd.R_lower ho1 (below_size (qB2 HB zf zh)))
  replace zb:=bK zb hb
  replace zd:=bK zd hb
  replace HB:=bS (qB2 HB zf zh) hb
  (try clear hb)
  (try clear ho0)
  (try clear ho1)
  refine hK.out _ _ (c10 zb (zW HB yf)) (fun hHeld=>?_)
  clear hK K
  refine norm_ (a':=?_) ?_ ?_
  rotate_left
  ·show Act.put _ (some 81) _=_
   simp only [Act.put,sP,i64_w,i32_w]
   rfl
  refine pQ 6 75 13 127 HT_ ?_
  refine pQ 7 82 13 255 HT_ ?_
  refine pQ 8 83 13 511 HT_ ?_
  refine pQ 9 84 13 1023 HT_ ?_
  refine pQ 10 10 13 2047 HT_ ?_
  refine pQ 11 11 13 4095 HT_ ?_
  refine pQ 12 12 13 8191 HT_ ?_
  refine dN HT_ ?_
  have hnb74:=zi.out
  have hnc74:=za.out
  have hcz75:=blk3 zd.out
  try go_wp2
  refine bodyPost_ret (results_ct rfl _ _ zc 32 #[.slice none 0 0,.slice none 0 0,.slice none 0 0] (0,0) _ rfl (by exact P3 zd) Try.underlying32 rfl (by kernel_rfl)) rfl ?_
  exact⟨_,_,_,pE,pN,pN,pN,qB2 HB zf zh⟩
 rw [ip c49] at H
 have za8:=bT c49
 have za9:=nF c49
 clear c49
 have H':=aM H
 clear H
 try go_wp2
 replace zb:=aM (blk_drew zb.out)
 replace zd:=aM (blk_drew zd.out)
 replace HB:=aM (below_drew1 HB.out)
 have yao:0≤(0:Int):=(by omega)
 have yap:0 < (l2.length:Int):=oD
 obtain⟨yak,y0,y1,yav,yd,yy,yz⟩:=at_L1 HR2.out 0 yao yap
 have yf:=yd
 (try rw [show ((0:Int)).toNat=0 from rfl] at yf)
 (try rw [show 0 * 1=0 from rfl] at yf)
 (try rw [Addr.add_zero'] at yf)
 cases yav
 have qi848:(0 < l2.length)=True:=eq_true (by omega)
 (try rw [show ((0:Int)).toNat=0 from rfl] at yd)
 (try rw [Addr.add_zero'] at yd)
 replace yd:=zW HB yd
 have z1:=aM yz
 have z9:=aM yy
 clear yz yy
 refine sT 13 [] (fun w'=>w'.cell? ⟨ze,0,none⟩=some (.int .i64 yg)∧w'.cell? ⟨ze,1,none⟩=some (.int .i64 yh)∧w'.cell? ⟨ze,2,none⟩=some (.int .i64 yi)∧w'.cell? ⟨ze,3,none⟩=some (.int .i64 yj)∧w'.cell? ⟨ze,4,none⟩=some (.int .i64 yk)∧w'.cell? ⟨ze,5,none⟩=some (.int .i64 yl)∧w'.cell? ⟨ze,6,none⟩=some (.int .i64 ym)∧w'.cell? ⟨ze,7,none⟩=some (.int .i64 yn)∧w'.cell? ⟨ze,8,none⟩=some (.bool yo)∧w'.cell? ⟨ze,9,none⟩=some (.slice yt ye.length yu)∧w'.cell? yak=some (.slice y0 (rd_L1 l2 0).length y1)) fbb.tab16 fbb.bits16 (c10 zb (zW HB yf)) (fun hHeld HT_ HW_=>?_)
 generalize wr.drew=w50 at zb zd HB z1 yd hHeld ⊢
 refine pQ 0 76 13 1 HT_ ?_
 refine pQ 2 78 13 5 HT_ ?_
 refine pQ 3 79 13 13 HT_ ?_
 refine pU11 1 77 13 15 HT_ HW_ hHeld ?_
 refine pU11 4 80 13 31 HT_ HW_ hHeld ?_
 refine oN 5 81 13 63 HT_ (fun K hK=>?_)
 refine gS Try.func38 #[.int .i64 a0,.agg (aT yg yh yi yj yk yl ym yn yo yt ye.length yu),.slice y0 (rd_L1 l2 0).length y1] ?_
 with_reducible refine(fbe.calls k3 a0 yg yh yi yj yk yl ym yn yo _ _ ye _ _ (rd_L1 l2 0) z2 z0 zaj _ ?s1 zar.out ?s3 z9.out A48.out).mono ?_
 (case s1=>exact sC zaq HB)
 (case s3=>exact sC z1 HB)
 rintro e w51 ⟨v850,v853,rfl,ho0,ho1,hb⟩
 refine⟨_,rfl,?_⟩
 have zab:=aM (Kd.R_lower ho0 (below_size (qB2 HB zf zh)))
 have zac:=aM (Kd.R_lower ho1 (below_size (qB2 HB zf zh)))
 replace zb:=bK zb hb
 replace zd:=bK zd hb
 replace HB:=bS (qB2 HB zf zh) hb
 (try clear hb)
 (try clear ho0)
 (try clear ho1)
 refine hK.out _ _ (c10 zb (zW HB yf)) (fun hHeld=>?_)
 clear hK K
 refine norm_ (a':=?_) ?_ ?_
 rotate_left
 ·show Act.put _ (some 81) _=_
  simp only [Act.put,sP,i64_w,i32_w]
  rfl
 refine pQ 6 75 13 127 HT_ ?_
 refine pQ 7 82 13 255 HT_ ?_
 refine pQ 8 83 13 511 HT_ ?_
 refine pQ 9 84 13 1023 HT_ ?_
 refine pQ 10 10 13 2047 HT_ ?_
 refine pQ 11 11 13 4095 HT_ ?_
 refine pQ 12 12 13 8191 HT_ ?_
 refine dN HT_ ?_
 obtain⟨zad,zae,ybt⟩:=Kd.R_slice zac.out
 subst ybt
 obtain⟨zaf,zag,ybu⟩:=Kd.R_slice zab.out
 subst ybu
 try go_wp2_with (first|((with_reducible refine gD 13 rfl ?_);(try (refine gate_guard (by rfl) ?_;dsimp only));refine bX 13 32 #[.slice none 0 0,.slice none 0 0,.slice none 0 0] ?_;intro zah hg w54 hbox hb;replace zab:=bR zab hb;replace zac:=bR zac hb;have zv:=aM (hbox);have GW856:=gE (w:=w) hg (qB2 HB zf zh);have zai:=GW856;replace HB:=bS (qB2 HB zf zh) hb;have zw:=nL hg zb;have z3:=nG hg zb;replace zb:=bK zb hb;have zx:=nL hg zd;have z4:=nG hg zd;replace zd:=bK zd hb;clear hb hbox hg;have hnb55:=z3.out;have hnc55:=zw.out;have hnb56:=z4.out;have hnc56:=zx.out;have ya6:=blk3 zv.out))
 go_loopg [94] k3 (fun kq v94 w'=>∃ (y2:Int) (zj:List Int) (u857001:Value),v94=.int .i64 y2∧Aside0 (fbb.l1 kq (z0.length:Int) y2 z2 zj z0=some (r1,r2,r3,r4))∧Aside0 (kq≤k3)∧Aside0 (Kd.R (Kd.int .i64) 3 w' w.heap.size (fun k_=>some k_≠(u857001:Value).ownBlock∧some k_≠((.slice zad z0.length zae):Value).ownBlock) (.slice zaf z2.length zag) z2)∧Aside0 (Kd.R (Kd.int .i64) 3 w' w.heap.size (fun k_=>some k_≠((.slice zaf z2.length zag):Value).ownBlock∧some k_≠((.slice zad z0.length zae):Value).ownBlock) u857001 zj)∧Aside0 (Kd.R (Kd.int .i64) 3 w' w.heap.size (fun k_=>some k_≠((.slice zaf z2.length zag):Value).ownBlock∧some k_≠(u857001:Value).ownBlock) (.slice zad z0.length zae) z0)∧Aside0 (w'.heap[ze]?=some (.cells (aT yg yh yi yj yk yl ym yn yo yt ye.length yu) 24 (0,0)))∧Aside0 (w'.heap[zc]?=some (.cells #[(.slice none 0 0),(.slice none 0 0),(.slice none 0 0)] 32 (0,0)))∧Aside0 (w'.heap[zah]?=some (.cells #[(.slice zaf z2.length zag),u857001,(.slice zad z0.length zae)] 32 (0,0)))∧Aside0 (Below w.heap.size w w'))
 case atStart=>exact⟨(0),(([]:List Int)),(.slice none 0 0),(pF),H',⟨Nat.le_refl _⟩,⟨by(with_reducible repeat(first|apply rA|apply rN|apply rD));exact F3 zab zv (fun _ hk=>⟨(by simp [Value.ownBlock]),hk.1⟩)⟩,⟨pN⟩,⟨by(with_reducible repeat(first|apply rA|apply rN|apply rD));exact F3 zac zv (fun _ hk=>⟨hk.1,(by simp [Value.ownBlock])⟩)⟩,⟨by refine B3 zw ?_;exact zb.out⟩,⟨by refine B3 zx ?_;exact zd.out⟩,⟨by exact P3 zv⟩,⟨qB3 HB zf zh zai⟩⟩
 clear H'
 try clear zax
 try clear c24
 try clear zay
 try clear zaz
 try clear c35
 try clear za3
 try clear za4
 try clear ya4
 try clear ya5
 try clear za8
 try clear za9
 try clear ya6
 try clear yd
 try clear yao
 try clear yap
 obtain⟨y2,zj,u857001,rfl,HA,HK4,zy,zk,zz,zb,zd,zv,HB⟩:=hrel
 cases gk with
 | zero=>exact absurd HA.out (by simp [fbb.l1])
 | succ k4=>?_
 have H:=HA.out
 clear HA
 simp only [fbb.l1] at H
 by_cases c58:y2 < (z0.length:Int)
 rotate_left
 ·rw [iN c58] at H
  have ya7:=dF c58
  clear c58
  replace H:=oi4 H
  obtain⟨rfl,rfl,rfl,rfl⟩:=H
  have hnb66:=z3.out
  have hnc66:=zw.out
  have hnb67:=z4.out
  have hnc67:=zx.out
  have hcz68:=blk3 zv.out
  have hnb69:=zi.out
  have hnc69:=za.out
  have hcz70:=blk3 zd.out
  obtain⟨ybv,ybw,ybx⟩:=Kd.R_slice zk.out
  subst ybx
  go_wp2
  refine bodyPost_ret (results_ct rfl _ _ zc 32 #[.slice zaf z2.length zag,.slice ybv zj.length ybw,.slice zad z0.length zae] (0,0) _ rfl (by exact P3 zd) Try.underlying32 rfl (by kernel_rfl)) rfl ?_
  exact⟨_,_,_,pE,by(with_reducible repeat(first|apply rA|apply rN|apply rD));exact F3 zy zd (fun _ hk=>⟨hk.1.1,hk.1.2⟩),by(with_reducible repeat(first|apply rA|apply rN|apply rD));exact F3 zk zd (fun _ hk=>⟨hk.1.1,hk.1.2⟩),by(with_reducible repeat(first|apply rA|apply rN|apply rD));exact F3 zz zd (fun _ hk=>⟨hk.1.1,hk.1.2⟩),qB3 HB zf zh zai⟩
 rw [ip c58] at H
 have ya7:=dT c58
 clear c58
 by_cases c59:zj.length < 17592186044416
 rotate_left
 ·rw [iN c59] at H
  cases H
 rw [ip c59] at H
 have LMc59:=aM c59
 clear c59
 obtain⟨zap,zat⟩:∃ y_:List Int,y_=(zj ++ [0]):=⟨_,rfl⟩
 replace H:(fbb.l1 k4 (z0.length:Int) (wrap64 (y2 + 1)) z2 zap z0)=some (r1,r2,r3,r4):=pH zat H
 have Ny857:=aM zat
 clear zat
 have H':=aM H
 clear H
 have hnb60:=z3.out
 have hnc60:=zw.out
 have hnb61:=z4.out
 have hnc61:=zx.out
 have hcz62:=blk3 zv.out
 go_wp2_with (first|((with_reducible refine gate_builtin (b:=.append) (xs:=#[.tmp 97,.tmp 98]) rfl ?_);(try (refine gate_guard (by rfl) ?_;dsimp only));at_builtin;refine Kd.R_append (Kd.int .i64) (w0:=w) w.heap.size rfl (.tmp 97) (.tmp 98) 22 3 (.int .i64 0) 8 rfl Try.underlying22 info3 rfl (by decide) (by omega) u857001 zj 0 [.int .i64 0] (fun k_=>some k_≠(.slice zaf z2.length zag:Value).ownBlock∧some k_≠(.slice zad z0.length zae:Value).ownBlock) (fun _=>False) rfl rfl ?aP (fun _ hk=>hk.elim) ?aF ?aO ?aB ?aS ?aL ?_;(case aP=>exact rfl);(case aB=>exact(qB3 HB zf zh zai));(case aF=>exact(fun k_ hk=>⟨Kd.fresh' (Kd.R_lt (pR zy.out)) k_ hk,Kd.fresh' (Kd.R_lt (pR zz.out)) k_ hk⟩));(case aO=>exact(pR zk.out));(case aS=>exact(below_size (qB3 HB zf zh zai)));(case aL=>have:=LMc59.out;omega);intro v858 w63 ho hb hg hat;rw [← Ny857.out] at ho;replace zy:=aM (Kd.R_after (ok:=(fun k_=>some k_≠(.slice zad z0.length zae:Value).ownBlock)) (by(with_reducible repeat(first|apply rA|apply rN|apply rD));exact Kd.R_mono zy.out (fun _ hk=>⟨hk.2,hk.1⟩)) hg hat);replace zz:=aM (Kd.R_after (ok:=(fun k_=>some k_≠(.slice zaf z2.length zag:Value).ownBlock)) (pR zz.out) hg hat);replace zb:=aM (blk_grown (g:=ze) (pK zb.out) hg (Kd.R_ne zk.out zb.out (by decide)));replace zd:=aM (blk_grown (g:=zc) (pK zd.out) hg (Kd.R_ne zk.out zd.out (by decide)));replace zv:=aM (blk_grown (g:=zah) (pK zv.out) hg (Kd.R_ne zk.out zv.out (by decide)));replace HB:=aM (hb);have zba:=aM (ho);clear zk;clear ho hb hg hat;obtain⟨zav,zaw,yby⟩:=Kd.R_slice zba.out;subst yby;have hcz65:=blk3 zv.out))
 go_roundg k4
 case measure=>have:=HJ3.out;have:=zau.out;have:=HK3.out;have:=HK4.out;omega
 case rel=>exact⟨(wrap64 (y2 + 1)),(zap),(.slice zav zap.length zaw),(pF),H',⟨by have:=HJ3.out;have:=zau.out;have:=HK3.out;have:=HK4.out;omega⟩,⟨by(with_reducible repeat(first|apply rA|apply rN|apply rD));exact Kd.R_mono (Kd.R_far (p:=⟨zah,1,none⟩) (Kd.R_types zy.out zv.out (by decide)) (fun _ hk=>hk.2) (.slice zav zap.length zaw)) (fun _ hk=>⟨hk.1.2,hk.1.1⟩)⟩,⟨by(with_reducible repeat(first|apply rA|apply rN|apply rD));exact Kd.R_mono (Kd.R_far (p:=⟨zah,1,none⟩) (Kd.R_types zba.out zv.out (by decide)) (fun _ hk=>hk.2) (.slice zav zap.length zaw)) (fun _ hk=>⟨hk.1.1,hk.1.2⟩)⟩,⟨by(with_reducible repeat(first|apply rA|apply rN|apply rD));exact Kd.R_mono (Kd.R_far (p:=⟨zah,1,none⟩) (Kd.R_types zz.out zv.out (by decide)) (fun _ hk=>hk.2) (.slice zav zap.length zaw)) (fun _ hk=>⟨hk.1.1,hk.1.2⟩)⟩,⟨by(with_reducible repeat(first|apply bN|apply bD|apply bA));refine blk_far ?_ zw.out _;(with_reducible repeat(first|apply bN|apply bD|apply bA));exact zb.out⟩,⟨by(with_reducible repeat(first|apply bN|apply bD|apply bA));refine blk_far ?_ zx.out _;(with_reducible repeat(first|apply bN|apply bD|apply bA));exact zd.out⟩,⟨by(with_reducible repeat(first|apply bN|apply bD|apply bA));refine blk_put (cs:=#[.slice zaf z2.length zag,u857001,.slice zad z0.length zae]) ?_ 1 _ rfl;(with_reducible repeat(first|apply bN|apply bD|apply bA));exact zv.out⟩,⟨qB3 HB zf zh zai⟩⟩
mutual
def faa.j0:Nat→Int→List (List Int)→Bool→Int→Int→Int→Int→Int→Int→Int→Int→Bool→List Int→List Int→List Int→List Int→Option (Bool)
 | 0,_,_,_,_,_,_,_,_,_,_,_,_,_,_,_,_=>none
 | k + 1,x0,x2,x64,zl,zm,zn,zo,zp,zq,zr,zs,zt,zu,zv,zi,zh=>if x64=true then(some false)else(faa.l0 k x0 x2 (-1) zl zm zn zo zp zq zr zs zt zu zv zi zh)
def faa.l0:Nat→Int→List (List Int)→Int→Int→Int→Int→Int→Int→Int→Int→Int→Bool→List Int→List Int→List Int→List Int→Option (Bool)
 | 0,_,_,_,_,_,_,_,_,_,_,_,_,_,_,_,_=>none
 | k + 1,x0,x2,x11,zl,zm,zn,zo,zp,zq,zr,zs,zt,zu,zv,zi,zh=>if x11≤65 then((fbg.f k x0 zl zm zn zo zp zq zr zs zt zu x2 x11).bind fun bt885=>(if x0=39 then(if bt885.2.2=true then(faa.j2 k x0 x2 x11 bt885.1 bt885.2.1 bt885.2.2 true zl zm zn zo zp zq zr zs zt zu zv zi zh)else(if bt885.1=0 then(faa.j2 k x0 x2 x11 bt885.1 bt885.2.1 bt885.2.2 (bt885.2.1 != 0) zl zm zn zo zp zq zr zs zt zu zv zi zh)else(faa.j2 k x0 x2 x11 bt885.1 bt885.2.1 bt885.2.2 true zl zm zn zo zp zq zr zs zt zu zv zi zh)))else(if x11 ≥ 0 then(if(bt885.2.2 != (decide (x11 < (zh.length:Int))))=true then(faa.j2 k x0 x2 x11 bt885.1 bt885.2.1 bt885.2.2 true zl zm zn zo zp zq zr zs zt zu zv zi zh)else(if bt885.2.2=true then(faa.j2 k x0 x2 x11 bt885.1 bt885.2.1 bt885.2.2 false zl zm zn zo zp zq zr zs zt zu zv zi zh)else(if bt885.1=0 then(faa.j2 k x0 x2 x11 bt885.1 bt885.2.1 bt885.2.2 (bt885.2.1 != 0) zl zm zn zo zp zq zr zs zt zu zv zi zh)else(faa.j2 k x0 x2 x11 bt885.1 bt885.2.1 bt885.2.2 true zl zm zn zo zp zq zr zs zt zu zv zi zh))))else(if(bt885.2.2 != false)=true then(faa.j2 k x0 x2 x11 bt885.1 bt885.2.1 bt885.2.2 true zl zm zn zo zp zq zr zs zt zu zv zi zh)else(if bt885.2.2=true then(faa.j2 k x0 x2 x11 bt885.1 bt885.2.1 bt885.2.2 false zl zm zn zo zp zq zr zs zt zu zv zi zh)else(if bt885.1=0 then(faa.j2 k x0 x2 x11 bt885.1 bt885.2.1 bt885.2.2 (bt885.2.1 != 0) zl zm zn zo zp zq zr zs zt zu zv zi zh)else(faa.j2 k x0 x2 x11 bt885.1 bt885.2.1 bt885.2.2 true zl zm zn zo zp zq zr zs zt zu zv zi zh)))))))else((fac.f).bind fun zaw=>(some zaw))
def faa.j2:Nat→Int→List (List Int)→Int→Int→Int→Bool→Bool→Int→Int→Int→Int→Int→Int→Int→Int→Bool→List Int→List Int→List Int→List Int→Option (Bool)
 | 0,_,_,_,_,_,_,_,_,_,_,_,_,_,_,_,_,_,_,_,_=>none
 | k + 1,x0,x2,x11,x12,x13,x14,x111,zl,zm,zn,zo,zp,zq,zr,zs,zt,zu,zv,zi,zh=>if x111=true then(some false)else(if x14=true then(if 0≤x11 then(if x11 < (zi.length:Int)then(if x12=(rd zi x11)then(if x11 < (zh.length:Int)then(if x13=(rd zh x11)then(faa.l0 k x0 x2 (wrap64 (x11 + 1)) zl zm zn zo zp zq zr zs zt zu zv zi zh)else(some false))else(none))else(some false))else(none))else(none))else(faa.l0 k x0 x2 (wrap64 (x11 + 1)) zl zm zn zo zp zq zr zs zt zu zv zi zh))
end
def faa.f (k:Nat) (a0:Int) (yc:Int) (yd:Int) (ye:Int) (yf:Int) (yg:Int) (yh:Int) (yi:Int) (yj:Int) (yk:Bool) (ya:List Int) (l2:List (List Int)):Option (Bool):=(fab.f k yc yd ye yf yg yh yi yj yk ya l2).bind fun zap=>(if zap=true then((fac.f).bind fun zaq=>(some zaq))else((fbf.f k a0 yc yd ye yf yg yh yi yj yk ya l2).bind fun bt865=>((fbb.f k a0 yc yd ye yf yg yh yi yj yk ya l2).bind fun bt869=>(if bt865.2=bt869.2.2.2 then((fae.f k bt865.1 bt869.1).bind fun zar=>(if zar=true then((fbh.f a0).bind fun z1=>(if a0 ≥ 33 then(if(z1 != (decide (a0≤40)))=true then(faa.j0 k a0 l2 true yc yd ye yf yg yh yi yj yk ya bt869.1 bt869.2.1 bt869.2.2.1)else((fbi.f a0).bind fun zal=>(faa.j0 k a0 l2 (zal != (decide (a0≤37))) yc yd ye yf yg yh yi yj yk ya bt869.1 bt869.2.1 bt869.2.2.1)))else(if(z1 != false)=true then(faa.j0 k a0 l2 true yc yd ye yf yg yh yi yj yk ya bt869.1 bt869.2.1 bt869.2.2.1)else((fbi.f a0).bind fun zam=>(faa.j0 k a0 l2 (zam != false) yc yd ye yf yg yh yi yj yk ya bt869.1 bt869.2.1 bt869.2.2.1)))))else(faa.j0 k a0 l2 true yc yd ye yf yg yh yi yj yk ya bt869.1 bt869.2.1 bt869.2.2.1)))else(faa.j0 k a0 l2 true yc yd ye yf yg yh yi yj yk ya bt869.1 bt869.2.1 bt869.2.2.1)))))
theorem faa.calls (k:Nat) (a0:Int) (yc:Int) (yd:Int) (ye:Int) (yf:Int) (yg:Int) (yh:Int) (yi:Int) (yj:Int)(yk:Bool)(yl:Option Addr)(ym:Nat)(ya:List Int)(A2:Option Addr)(c2:Nat)(l2:List (List Int))(w:World)(yo:Kd.C (Kd.int .i64) w yl ya.length ya)(yp:ya.length≤ym)(hr2:Kd.C (Kd.slice 3 (Kd.int .i64)) w A2 l2.length l2)(hc2:l2.length≤c2)(h:faa.f k a0 yc yd ye yf yg yh yi yj yk ya l2=some true) :
  Calls Try.prog 3 #[.int .i64 a0,.agg #[.int .i64 yc,.int .i64 yd,.int .i64 ye,.int .i64 yf,.int .i64 yg,.int .i64 yh,.int .i64 yi,.int .i64 yj,.bool yk,.slice yl ya.length ym],.slice A2 l2.length c2] w fun e w'=>e=.returned (.bool true)∧Below w.heap.size w w':=by
 have hu24:=Try.underlying24
 have hu32:=Try.underlying32
 have zag:=aM yo
 have zah:=aM yp
 clear yo yp
 have HR2:=aM hr2
 have HC2:=aM hc2
 clear hr2 hc2
 have HB:=aM (Below.refl w.heap.size w)
 have H:((fab.f k yc yd ye yf yg yh yi yj yk ya l2).bind fun zap=>(if zap=true then((fac.f).bind fun zaq=>(some zaq))else((fbf.f k a0 yc yd ye yf yg yh yi yj yk ya l2).bind fun bt865=>((fbb.f k a0 yc yd ye yf yg yh yi yj yk ya l2).bind fun bt869=>(if bt865.2=bt869.2.2.2 then((fae.f k bt865.1 bt869.1).bind fun zar=>(if zar=true then((fbh.f a0).bind fun z1=>(if a0 ≥ 33 then(if(z1 != (decide (a0≤40)))=true then(faa.j0 k a0 l2 true yc yd ye yf yg yh yi yj yk ya bt869.1 bt869.2.1 bt869.2.2.1)else((fbi.f a0).bind fun zal=>(faa.j0 k a0 l2 (zal != (decide (a0≤37))) yc yd ye yf yg yh yi yj yk ya bt869.1 bt869.2.1 bt869.2.2.1)))else(if(z1 != false)=true then(faa.j0 k a0 l2 true yc yd ye yf yg yh yi yj yk ya bt869.1 bt869.2.1 bt869.2.2.1)else((fbi.f a0).bind fun zam=>(faa.j0 k a0 l2 (zam != false) yc yd ye yf yg yh yi yj yk ya bt869.1 bt869.2.1 bt869.2.2.1)))))else(faa.j0 k a0 l2 true yc yd ye yf yg yh yi yj yk ya bt869.1 bt869.2.1 bt869.2.2.1)))else(faa.j0 k a0 l2 true yc yd ye yf yg yh yi yj yk ya bt869.1 bt869.2.1 bt869.2.2.1))))))=some true:=h
 clear h
 replace H:=oB H
 obtain⟨zap,A40,H⟩:=H
 try dsimp only at H
 have A4:=aM A40
 clear A40
 by_cases c5:zap=true
 ·subst c5
  rw [ip rfl] at H
  replace H:=oB H
  obtain⟨zaq,A60,H⟩:=H
  try dsimp only at H
  have A6:=aM A60
  clear A60
  have hv_:=aM (Option.some.inj H)
  clear H
  go_enter Try.func3,Try.ntmps3
  go_wp2_with (first|((with_reducible refine gD 4 rfl ?_);(try (refine gate_guard (by rfl) ?_;dsimp only));refine bX 4 24 (aT yc yd ye yf yg yh yi yj yk yl ya.length ym) ?_;intro zak hg w7 hbox hb;have ze:=aM (hbox);have zas:=gE (w:=w) hg (qB HB);have zg:=zas;replace HB:=bS (qB HB) hb;clear hb hbox hg;have hcz8:=blk10 ze.out)|((with_reducible refine gC 8 rfl ?_);refine gL 17 Try.func8 #[.agg (aT yc yd ye yf yg yh yi yj yk yl ya.length ym),.slice A2 l2.length c2] ?_;(with_reducible refine(fab.calls k yc yd ye yf yg yh yi yj yk _ _ ya _ _ l2 true _ ?s1 zah.out ?s3 HC2.out A4.out).mono ?_);(case s1=>exact sC zag HB);(case s3=>exact sC HR2 HB);rintro e w9 ⟨rfl,hb⟩;refine⟨_,rfl,?_⟩;replace ze:=bK ze hb;replace HB:=bS (qB1 HB zg) hb;(try clear hb);(try clear hk);(try clear hi))|((with_reducible refine gC 9 rfl ?_);refine gL 18 Try.func9 #[] ?_;(with_reducible refine(fac.calls  zaq _ A6.out).mono ?_);rintro e w10 ⟨rfl,hb⟩;refine⟨_,rfl,?_⟩;replace ze:=bK ze hb;replace HB:=bS (qB1 HB zg) hb;(try clear hb);(try clear hk);(try clear hi)))
  go_ret
  replace hv_:=hv_.out
  exact⟨pE,qB1 HB zg⟩
 replace c5:=Bool.eq_false_iff.mpr c5
 subst c5
 rw [iN (show ¬ (false=true) by decide)] at H
 replace H:=oB H
 obtain⟨⟨zaa,zan⟩,zax,H⟩:=H
 try dsimp only at H
 have A11:=aM zax
 clear zax
 replace H:=oB H
 obtain⟨⟨zy,zw,zj,zao⟩,zay,H⟩:=H
 try dsimp only at H
 have A12:=aM zay
 clear zay
 have HC13:=aM H
 clear H
 go_enter Try.func3,Try.ntmps3
 go_upto_region 5 with(first|((with_reducible refine gD 4 rfl ?_);(try (refine gate_guard (by rfl) ?_;dsimp only));refine bX 4 24 (aT yc yd ye yf yg yh yi yj yk yl ya.length ym) ?_;intro zak hg w14 hbox hb;have ze:=aM (hbox);have zas:=gE (w:=w) hg (qB HB);have zg:=zas;replace HB:=bS (qB HB) hb;clear hb hbox hg;have yq:=blk10 ze.out)|((with_reducible refine gC 8 rfl ?_);refine gL 17 Try.func8 #[.agg (aT yc yd ye yf yg yh yi yj yk yl ya.length ym),.slice A2 l2.length c2] ?_;(with_reducible refine(fab.calls k yc yd ye yf yg yh yi yj yk _ _ ya _ _ l2 false _ ?s1 zah.out ?s3 HC2.out A4.out).mono ?_);(case s1=>exact sC zag HB);(case s3=>exact sC HR2 HB);rintro e w16 ⟨rfl,hb⟩;refine⟨_,rfl,?_⟩;replace ze:=bK ze hb;replace HB:=bS (qB1 HB zg) hb;(try clear hb);(try clear hk);(try clear hi);have yr:=blk10 ze.out)|((with_reducible refine gC 10 rfl ?_);refine gL 23 Try.func10 #[.int .i64 a0,.agg (aT yc yd ye yf yg yh yi yj yk yl ya.length ym),.slice A2 l2.length c2] ?_;(with_reducible refine(fbf.calls k a0 yc yd ye yf yg yh yi yj yk _ _ ya _ _ l2 zaa zan _ ?s1 zah.out ?s3 HC2.out A11.out).mono ?_);(case s1=>exact sC zag HB);(case s3=>exact sC HR2 HB);rintro e w18 ⟨v866,rfl,ho0,hb⟩;refine⟨_,rfl,?_⟩;have zz:=aM (Kd.R_lower ho0 (below_size (qB1 HB zg)));replace ze:=bK ze hb;replace HB:=bS (qB1 HB zg) hb;(try clear hb);(try clear hk);(try clear hi);(try clear ho0);have ys:=blk10 ze.out)|((with_reducible refine gC 11 rfl ?_);refine gL 30 Try.func11 #[.int .i64 a0,.agg (aT yc yd ye yf yg yh yi yj yk yl ya.length ym),.slice A2 l2.length c2] ?_;(with_reducible refine(fbb.calls k a0 yc yd ye yf yg yh yi yj yk _ _ ya _ _ l2 zy zw zj zao _ ?s1 zah.out ?s3 HC2.out A12.out).mono ?_);(case s1=>exact sC zag HB);(case s3=>exact sC HR2 HB);rintro e w20 ⟨v870,v873,v876,rfl,ho0,ho1,ho2,hb⟩;refine⟨_,rfl,?_⟩;have z0:=aM (Kd.R_lower (Kd.R_new' ho0 (Kd.R_lt (pR zz.out))) (below_size (qB1 HB zg)));have zac:=aM (Kd.R_lower (Kd.R_new' ho1 (Kd.R_lt (pR zz.out))) (below_size (qB1 HB zg)));have zad:=aM (Kd.R_lower (Kd.R_new' ho2 (Kd.R_lt (pR zz.out))) (below_size (qB1 HB zg)));replace zz:=aM (Kd.R_mono (Kd.R_told (Kd.R_told (Kd.R_told (Kd.R_old (pR zz.out) hb) (Kd.R_base ho0)) (Kd.R_base ho1)) (Kd.R_base ho2)) (fun _ h_=>h_.1));replace ze:=bK ze hb;replace HB:=bS (qB1 HB zg) hb;(try clear hb);(try clear hk);(try clear hi);(try clear ho0);(try clear ho1);(try clear ho2))|((with_reducible refine gD 9 rfl ?_);(try (refine gate_guard (by rfl) ?_;dsimp only));refine bX 9 32 #[.slice none 0 0,.slice none 0 0,.slice none 0 0] ?_;intro zat hg w21 hbox hb;replace zz:=bR zz hb;replace z0:=bR z0 hb;replace zac:=bR zac hb;replace zad:=bR zad hb;have za:=aM (hbox);have GW879:=gE (w:=w) hg (qB1 HB zg);have zx:=GW879;replace HB:=bS (qB1 HB zg) hb;have zf:=nL hg ze;have zk:=nG hg ze;replace ze:=bK ze hb;clear hb hbox hg;obtain⟨z9,z2,yal⟩:=Kd.R_slice z0.out;subst yal;have hnb23:=zk.out;have hnc23:=zf.out;have yt:=blk3 za.out;obtain⟨z3,z4,yam⟩:=Kd.R_slice zac.out;subst yam;obtain⟨z5,z6,yan⟩:=Kd.R_slice zad.out;subst yan))
 (try simp only [Act.put,sP])
 go_cut [64] (fun v64 wc=>∃ (kq:Nat) (yn:Bool),v64=.bool yn∧Aside0 (faa.j0 kq a0 l2 yn yc yd ye yf yg yh yi yj yk ya zy zw zj=some true)∧Aside0 (kq≤k)∧Aside0 (Kd.R (Kd.int .i64) 3 wc w.heap.size (fun k_=>some k_≠((.slice z3 zw.length z4):Value).ownBlock∧some k_≠((.slice z5 zj.length z6):Value).ownBlock) (.slice z9 zy.length z2) zy)∧Aside0 (Kd.R (Kd.int .i64) 3 wc w.heap.size (fun k_=>some k_≠((.slice z9 zy.length z2):Value).ownBlock∧some k_≠((.slice z5 zj.length z6):Value).ownBlock) (.slice z3 zw.length z4) zw)∧Aside0 (Kd.R (Kd.int .i64) 3 wc w.heap.size (fun k_=>some k_≠((.slice z9 zy.length z2):Value).ownBlock∧some k_≠((.slice z3 zw.length z4):Value).ownBlock) (.slice z5 zj.length z6) zj)∧Aside0 (wc.heap[zak]?=some (.cells (aT yc yd ye yf yg yh yi yj yk yl ya.length ym) 24 (0,0)))∧Aside0 (wc.heap[zat]?=some (.cells #[(.slice z9 zy.length z2),(.slice z3 zw.length z4),(.slice z5 zj.length z6)] 32 (0,0)))∧Aside0 (Below w.heap.size w wc))
 case first =>
  have H:=HC13.out
  clear HC13
  by_cases c27:zan=zao
  rotate_left
  ·rw [iN c27] at H
   have zai:=bF c27
   have yu:=nT c27
   (first|rw [zai]|(simp only [i64_w,i32_w];rw [zai])|skip)
   have H':=aM H
   clear H
   go_wp2
   go_meet
   case rel=>exact⟨_,(true),(pF),H',⟨pO⟩,⟨by(with_reducible repeat(first|apply rA|apply rN|apply rD));exact F3 z0 za (fun _ hk=>⟨hk.1.1.1,hk.1.1.2⟩)⟩,⟨by(with_reducible repeat(first|apply rA|apply rN|apply rD));exact F3 zac za (fun _ hk=>⟨hk.1.1.1,hk.1.1.2⟩)⟩,⟨by(with_reducible repeat(first|apply rA|apply rN|apply rD));exact F3 zad za (fun _ hk=>⟨hk.1.1.1,hk.1.1.2⟩)⟩,⟨by refine B3 zf ?_;exact ze.out⟩,⟨by exact P3 za⟩,⟨qB2 HB zg zx⟩⟩
  rw [ip c27] at H
  have zai:=bT c27
  have yu:=nF c27
  clear c27
  (first|rw [zai]|(simp only [i64_w,i32_w];rw [zai])|skip)
  replace H:=oB H
  obtain⟨zar,zaz,H⟩:=H
  try dsimp only at H
  have A28:=aM zaz
  clear zaz
  by_cases c29:zar=true
  rotate_left
  ·replace c29:=Bool.eq_false_iff.mpr c29
   subst c29
   rw [iN (show ¬ (false=true) by decide)] at H
   have H':=aM H
   clear H
   have hnb48:=zk.out
   have hnc48:=zf.out
   have hcz49:=blk3 za.out
   obtain⟨yao,za0,yap⟩:=Kd.R_slice zz.out
   subst yap
   go_wp2_with (first|(go_at_call 12;(with_reducible refine(fae.calls k _ _ zaa _ _ zy false _ ?s1 ?s2 ?s3 ?s4 A28.out).mono ?_);(case s1=>refine(Kd.R_reads' (e:=3) (base:=w.heap.size) (ok:=fun k_=>(((True∧some k_≠(.slice z9 zy.length z2:Value).ownBlock)∧some k_≠(.slice z3 zw.length z4:Value).ownBlock)∧some k_≠(.slice z5 zj.length z6:Value).ownBlock)) (n:=zaa.length) (c:=za0) ?_).2.2;exact(by(with_reducible repeat(first|apply rA|apply rN|apply rD));exact(F3 zz za (fun _ h_=>h_.1))));(case s2=>exact sL zz);(case s3=>refine(Kd.R_reads' (e:=3) (base:=w.heap.size) (ok:=fun k_=>((some k_≠(.slice z3 zw.length z4:Value).ownBlock∧some k_≠(.slice z5 zj.length z6:Value).ownBlock)∧some k_≠(.slice yao zaa.length za0:Value).ownBlock)) (n:=zy.length) (c:=z2) ?_).2.2;exact(by(with_reducible repeat(first|apply rA|apply rN|apply rD));exact(F3 z0 za (fun _ h_=>h_.1))));(case s4=>exact sL z0);rintro e w' ⟨rfl,⟨nd,rfl⟩⟩))
   go_meet
   case rel=>exact⟨_,(true),(pF),H',⟨pO⟩,⟨by(with_reducible repeat(first|apply rA|apply rN|apply rD));exact F3 z0 za (fun _ hk=>⟨hk.1.1.1,hk.1.1.2⟩)⟩,⟨by(with_reducible repeat(first|apply rA|apply rN|apply rD));exact F3 zac za (fun _ hk=>⟨hk.1.1.1,hk.1.1.2⟩)⟩,⟨by(with_reducible repeat(first|apply rA|apply rN|apply rD));exact F3 zad za (fun _ hk=>⟨hk.1.1.1,hk.1.1.2⟩)⟩,⟨by refine B3 zf ?_;exact ze.out⟩,⟨by exact P3 za⟩,⟨qB2 HB zg zx⟩⟩
  subst c29
  rw [ip rfl] at H
  replace H:=oB H
  obtain⟨z1,za1,H⟩:=H
  try dsimp only at H
  have A30:=aM za1
  clear za1
  by_cases c31:a0 ≥ 33
  ·rw [ip c31] at H
   have yv:decide (33≤a0)=true:=decide_eq_true c31
   clear c31
   by_cases c32:(z1 != (decide (a0≤40)))=true
   ·rw [ip c32] at H
    have yw:(z1 != (decide (a0≤40)))=true:=c32
    (try (have yx:decide (z1=(decide (a0≤40)))=false:=by simpa using c32))
    (try (have yy:(z1 == (decide (a0≤40)))=false:=by simpa using c32))
    (try (have c32b3:¬ (z1=(decide (a0≤40))):=by simpa using c32))
    clear c32
    have H':=aM H
    clear H
    have hnb33:=zk.out
    have hnc33:=zf.out
    have hcz34:=blk3 za.out
    obtain⟨yaq,za2,yar⟩:=Kd.R_slice zz.out
    subst yar
    go_wp2_with (first|(go_at_call 12;(with_reducible refine(fae.calls k _ _ zaa _ _ zy true _ ?s1 ?s2 ?s3 ?s4 A28.out).mono ?_);(case s1=>refine(Kd.R_reads' (e:=3) (base:=w.heap.size) (ok:=fun k_=>(((True∧some k_≠(.slice z9 zy.length z2:Value).ownBlock)∧some k_≠(.slice z3 zw.length z4:Value).ownBlock)∧some k_≠(.slice z5 zj.length z6:Value).ownBlock)) (n:=zaa.length) (c:=za2) ?_).2.2;exact(by(with_reducible repeat(first|apply rA|apply rN|apply rD));exact(F3 zz za (fun _ h_=>h_.1))));(case s2=>exact sL zz);(case s3=>refine(Kd.R_reads' (e:=3) (base:=w.heap.size) (ok:=fun k_=>((some k_≠(.slice z3 zw.length z4:Value).ownBlock∧some k_≠(.slice z5 zj.length z6:Value).ownBlock)∧some k_≠(.slice yaq zaa.length za2:Value).ownBlock)) (n:=zy.length) (c:=z2) ?_).2.2;exact(by(with_reducible repeat(first|apply rA|apply rN|apply rD));exact(F3 z0 za (fun _ h_=>h_.1))));(case s4=>exact sL z0);rintro e w' ⟨rfl,⟨nd,rfl⟩⟩)|(go_at_call 13;(with_reducible refine(fbh.calls a0 z1 _ A30.out).mono ?_);rintro e w' ⟨rfl,⟨nd,rfl⟩⟩))
    go_meet
    case rel=>exact⟨_,(true),(pF),H',⟨pO⟩,⟨by(with_reducible repeat(first|apply rA|apply rN|apply rD));exact F3 z0 za (fun _ hk=>⟨hk.1.1.1,hk.1.1.2⟩)⟩,⟨by(with_reducible repeat(first|apply rA|apply rN|apply rD));exact F3 zac za (fun _ hk=>⟨hk.1.1.1,hk.1.1.2⟩)⟩,⟨by(with_reducible repeat(first|apply rA|apply rN|apply rD));exact F3 zad za (fun _ hk=>⟨hk.1.1.1,hk.1.1.2⟩)⟩,⟨by refine B3 zf ?_;exact ze.out⟩,⟨by exact P3 za⟩,⟨qB2 HB zg zx⟩⟩
   rw [iN c32] at H
   have yw:(z1 != (decide (a0≤40)))=false:=by simpa using c32
   (try (have yx:decide (z1=(decide (a0≤40)))=true:=by simpa using c32))
   (try (have yy:(z1 == (decide (a0≤40)))=true:=by simpa using c32))
   clear c32
   replace H:=oB H
   obtain⟨zal,za3,H⟩:=H
   try dsimp only at H
   have A36:=aM za3
   clear za3
   have H':=aM H
   clear H
   have hnb37:=zk.out
   have hnc37:=zf.out
   have hcz38:=blk3 za.out
   obtain⟨yas,za4,yat⟩:=Kd.R_slice zz.out
   subst yat
   go_wp2_with (first|(go_at_call 12;(with_reducible refine(fae.calls k _ _ zaa _ _ zy true _ ?s1 ?s2 ?s3 ?s4 A28.out).mono ?_);(case s1=>refine(Kd.R_reads' (e:=3) (base:=w.heap.size) (ok:=fun k_=>(((True∧some k_≠(.slice z9 zy.length z2:Value).ownBlock)∧some k_≠(.slice z3 zw.length z4:Value).ownBlock)∧some k_≠(.slice z5 zj.length z6:Value).ownBlock)) (n:=zaa.length) (c:=za4) ?_).2.2;exact(by(with_reducible repeat(first|apply rA|apply rN|apply rD));exact(F3 zz za (fun _ h_=>h_.1))));(case s2=>exact sL zz);(case s3=>refine(Kd.R_reads' (e:=3) (base:=w.heap.size) (ok:=fun k_=>((some k_≠(.slice z3 zw.length z4:Value).ownBlock∧some k_≠(.slice z5 zj.length z6:Value).ownBlock)∧some k_≠(.slice yas zaa.length za4:Value).ownBlock)) (n:=zy.length) (c:=z2) ?_).2.2;exact(by(with_reducible repeat(first|apply rA|apply rN|apply rD));exact(F3 z0 za (fun _ h_=>h_.1))));(case s4=>exact sL z0);rintro e w' ⟨rfl,⟨nd,rfl⟩⟩)|(go_at_call 13;(with_reducible refine(fbh.calls a0 z1 _ A30.out).mono ?_);rintro e w' ⟨rfl,⟨nd,rfl⟩⟩)|(go_at_call 14;(with_reducible refine(fbi.calls a0 zal _ A36.out).mono ?_);rintro e w' ⟨rfl,⟨nd,rfl⟩⟩))
   go_meet
   case rel=>exact⟨_,((zal != (decide (a0≤37)))),(pF),H',⟨pO⟩,⟨by(with_reducible repeat(first|apply rA|apply rN|apply rD));exact F3 z0 za (fun _ hk=>⟨hk.1.1.1,hk.1.1.2⟩)⟩,⟨by(with_reducible repeat(first|apply rA|apply rN|apply rD));exact F3 zac za (fun _ hk=>⟨hk.1.1.1,hk.1.1.2⟩)⟩,⟨by(with_reducible repeat(first|apply rA|apply rN|apply rD));exact F3 zad za (fun _ hk=>⟨hk.1.1.1,hk.1.1.2⟩)⟩,⟨by refine B3 zf ?_;exact ze.out⟩,⟨by exact P3 za⟩,⟨qB2 HB zg zx⟩⟩
  rw [iN c31] at H
  have yv:decide (33≤a0)=false:=decide_eq_false c31
  clear c31
  by_cases c40:(z1 != false)=true
  ·rw [ip c40] at H
   have yz:(z1 != false)=true:=c40
   (try (have y0:decide (z1=false)=false:=by simpa using c40))
   (try (have y1:(z1 == false)=false:=by simpa using c40))
   (try (have c40b3:¬ (z1=false):=by simpa using c40))
   clear c40
   have H':=aM H
   clear H
   have hnb41:=zk.out
   have hnc41:=zf.out
   have hcz42:=blk3 za.out
   obtain⟨yau,za5,yav⟩:=Kd.R_slice zz.out
   subst yav
   go_wp2_with (first|(go_at_call 12;(with_reducible refine(fae.calls k _ _ zaa _ _ zy true _ ?s1 ?s2 ?s3 ?s4 A28.out).mono ?_);(case s1=>refine(Kd.R_reads' (e:=3) (base:=w.heap.size) (ok:=fun k_=>(((True∧some k_≠(.slice z9 zy.length z2:Value).ownBlock)∧some k_≠(.slice z3 zw.length z4:Value).ownBlock)∧some k_≠(.slice z5 zj.length z6:Value).ownBlock)) (n:=zaa.length) (c:=za5) ?_).2.2;exact(by(with_reducible repeat(first|apply rA|apply rN|apply rD));exact(F3 zz za (fun _ h_=>h_.1))));(case s2=>exact sL zz);(case s3=>refine(Kd.R_reads' (e:=3) (base:=w.heap.size) (ok:=fun k_=>((some k_≠(.slice z3 zw.length z4:Value).ownBlock∧some k_≠(.slice z5 zj.length z6:Value).ownBlock)∧some k_≠(.slice yau zaa.length za5:Value).ownBlock)) (n:=zy.length) (c:=z2) ?_).2.2;exact(by(with_reducible repeat(first|apply rA|apply rN|apply rD));exact(F3 z0 za (fun _ h_=>h_.1))));(case s4=>exact sL z0);rintro e w' ⟨rfl,⟨nd,rfl⟩⟩)|(go_at_call 13;(with_reducible refine(fbh.calls a0 z1 _ A30.out).mono ?_);rintro e w' ⟨rfl,⟨nd,rfl⟩⟩))
   go_meet
   case rel=>exact⟨_,(true),(pF),H',⟨pO⟩,⟨by(with_reducible repeat(first|apply rA|apply rN|apply rD));exact F3 z0 za (fun _ hk=>⟨hk.1.1.1,hk.1.1.2⟩)⟩,⟨by(with_reducible repeat(first|apply rA|apply rN|apply rD));exact F3 zac za (fun _ hk=>⟨hk.1.1.1,hk.1.1.2⟩)⟩,⟨by(with_reducible repeat(first|apply rA|apply rN|apply rD));exact F3 zad za (fun _ hk=>⟨hk.1.1.1,hk.1.1.2⟩)⟩,⟨by refine B3 zf ?_;exact ze.out⟩,⟨by exact P3 za⟩,⟨qB2 HB zg zx⟩⟩
  rw [iN c40] at H
  have yz:(z1 != false)=false:=by simpa using c40
  (try (have y0:decide (z1=false)=true:=by simpa using c40))
  (try (have y1:(z1 == false)=true:=by simpa using c40))
  clear c40
  replace H:=oB H
  obtain⟨zam,za6,H⟩:=H
  try dsimp only at H
  have A44:=aM za6
  clear za6
  have H':=aM H
  clear H
  have hnb45:=zk.out
  have hnc45:=zf.out
  have hcz46:=blk3 za.out
  obtain⟨yaw,za7,yax⟩:=Kd.R_slice zz.out
  subst yax
  go_wp2_with (first|(go_at_call 12;(with_reducible refine(fae.calls k _ _ zaa _ _ zy true _ ?s1 ?s2 ?s3 ?s4 A28.out).mono ?_);(case s1=>refine(Kd.R_reads' (e:=3) (base:=w.heap.size) (ok:=fun k_=>(((True∧some k_≠(.slice z9 zy.length z2:Value).ownBlock)∧some k_≠(.slice z3 zw.length z4:Value).ownBlock)∧some k_≠(.slice z5 zj.length z6:Value).ownBlock)) (n:=zaa.length) (c:=za7) ?_).2.2;exact(by(with_reducible repeat(first|apply rA|apply rN|apply rD));exact(F3 zz za (fun _ h_=>h_.1))));(case s2=>exact sL zz);(case s3=>refine(Kd.R_reads' (e:=3) (base:=w.heap.size) (ok:=fun k_=>((some k_≠(.slice z3 zw.length z4:Value).ownBlock∧some k_≠(.slice z5 zj.length z6:Value).ownBlock)∧some k_≠(.slice yaw zaa.length za7:Value).ownBlock)) (n:=zy.length) (c:=z2) ?_).2.2;exact(by(with_reducible repeat(first|apply rA|apply rN|apply rD));exact(F3 z0 za (fun _ h_=>h_.1))));(case s4=>exact sL z0);rintro e w' ⟨rfl,⟨nd,rfl⟩⟩)|(go_at_call 13;(with_reducible refine(fbh.calls a0 z1 _ A30.out).mono ?_);rintro e w' ⟨rfl,⟨nd,rfl⟩⟩)|(go_at_call 14;(with_reducible refine(fbi.calls a0 zam _ A44.out).mono ?_);rintro e w' ⟨rfl,⟨nd,rfl⟩⟩))
  go_meet
  case rel=>exact⟨_,((zam != false)),(pF),H',⟨pO⟩,⟨by(with_reducible repeat(first|apply rA|apply rN|apply rD));exact F3 z0 za (fun _ hk=>⟨hk.1.1.1,hk.1.1.2⟩)⟩,⟨by(with_reducible repeat(first|apply rA|apply rN|apply rD));exact F3 zac za (fun _ hk=>⟨hk.1.1.1,hk.1.1.2⟩)⟩,⟨by(with_reducible repeat(first|apply rA|apply rN|apply rD));exact F3 zad za (fun _ hk=>⟨hk.1.1.1,hk.1.1.2⟩)⟩,⟨by refine B3 zf ?_;exact ze.out⟩,⟨by exact P3 za⟩,⟨qB2 HB zg zx⟩⟩
 clear HC13
 try clear c2
 try clear c5
 try clear yq yr ys yt
 obtain⟨kq,yn,rfl,HA,zab,zd,zb,zc,ze,za,HB⟩:=hcut
 cases kq with
 | zero=>exact absurd HA.out (by simp [faa.j0])
 | succ za8=>?_
 have H:=HA.out
 clear HA
 simp only [faa.j0] at H
 by_cases c51:yn=true
 ·subst c51
  rw [ip rfl] at H
  cases H
 replace c51:=Bool.eq_false_iff.mpr c51
 subst c51
 rw [iN (show ¬ (false=true) by decide)] at H
 have H':=aM H
 clear H
 go_wp2
 go_loopg [11] za8 (fun kq v11 w'=>∃ (yb:Int),v11=.int .i64 yb∧Aside0 (faa.l0 kq a0 l2 yb yc yd ye yf yg yh yi yj yk ya zy zw zj=some true)∧Aside0 (kq≤za8)∧Aside0 (Kd.R (Kd.int .i64) 3 w' w.heap.size (fun k_=>some k_≠((.slice z3 zw.length z4):Value).ownBlock∧some k_≠((.slice z5 zj.length z6):Value).ownBlock) (.slice z9 zy.length z2) zy)∧Aside0 (Kd.R (Kd.int .i64) 3 w' w.heap.size (fun k_=>some k_≠((.slice z9 zy.length z2):Value).ownBlock∧some k_≠((.slice z5 zj.length z6):Value).ownBlock) (.slice z3 zw.length z4) zw)∧Aside0 (Kd.R (Kd.int .i64) 3 w' w.heap.size (fun k_=>some k_≠((.slice z9 zy.length z2):Value).ownBlock∧some k_≠((.slice z3 zw.length z4):Value).ownBlock) (.slice z5 zj.length z6) zj)∧Aside0 (w'.heap[zak]?=some (.cells (aT yc yd ye yf yg yh yi yj yk yl ya.length ym) 24 (0,0)))∧Aside0 (w'.heap[zat]?=some (.cells #[(.slice z9 zy.length z2),(.slice z3 zw.length z4),(.slice z5 zj.length z6)] 32 (0,0)))∧Aside0 (Below w.heap.size w w'))
 case atStart=>exact⟨((-1)),(pF),H',⟨Nat.le_refl _⟩,⟨pR zd.out⟩,⟨pR zb.out⟩,⟨pR zc.out⟩,⟨pK ze.out⟩,⟨pK za.out⟩,⟨qB2 HB zg zx⟩⟩
 clear H'
 try clear c51
 obtain⟨yb,rfl,HA,HK2,zd,zb,zc,ze,za,HB⟩:=hrel
 cases gk with
 | zero=>exact absurd HA.out (by simp [faa.l0])
 | succ k2=>?_
 have H:=HA.out
 clear HA
 simp only [faa.l0] at H
 by_cases c52:yb≤65
 rotate_left
 ·rw [iN c52] at H
  have zav:=dF c52
  clear c52
  replace H:=oB H
  obtain⟨zaw,za9,H⟩:=H
  try dsimp only at H
  have A85:=aM za9
  clear za9
  have hv_:=aM (Option.some.inj H)
  clear H
  go_wp2_with (first|((with_reducible refine gC 9 rfl ?_);refine gL 131 Try.func9 #[] ?_;(with_reducible refine(fac.calls  zaw _ A85.out).mono ?_);rintro e w86 ⟨rfl,hb⟩;refine⟨_,rfl,?_⟩;replace zd:=bR zd hb;replace zb:=bR zb hb;replace zc:=bR zc hb;replace ze:=bK ze hb;replace za:=bK za hb;replace HB:=bS (qB2 HB zg zx) hb;(try clear hb);(try clear hk);(try clear hi)))
  go_ret
  replace hv_:=hv_.out
  exact⟨pE,qB2 HB zg zx⟩
 rw [ip c52] at H
 have zav:=dT c52
 clear c52
 replace H:=oB H
 obtain⟨⟨z7,zaf,z8⟩,zba,H⟩:=H
 try dsimp only at H
 have A53:=aM zba
 clear zba
 have HC54:=aM H
 clear H
 have hnb55:=zf.out
 have hnc55:=zk.out
 have y2:=blk10 ze.out
 go_upto_region 11 with(first|((with_reducible refine gC 15 rfl ?_);refine gL 74 Try.func15 #[.int .i64 a0,.agg (aT yc yd ye yf yg yh yi yj yk yl ya.length ym),.slice A2 l2.length c2,.int .i64 yb] ?_;(with_reducible refine(fbg.calls k2 a0 yc yd ye yf yg yh yi yj yk _ _ ya _ _ l2 yb z7 zaf z8 _ ?s1 zah.out ?s3 HC2.out A53.out).mono ?_);(case s1=>exact sC zag HB);(case s3=>exact sC HR2 HB);rintro e w57 ⟨rfl,hb⟩;refine⟨_,rfl,?_⟩;replace zd:=bR zd hb;replace zb:=bR zb hb;replace zc:=bR zc hb;replace ze:=bK ze hb;replace za:=bK za hb;replace HB:=bS (qB2 HB zg zx) hb;(try clear hb);(try clear hk);(try clear hi)))
 (try simp only [Act.put,sP])
 go_cut [111] (fun v111 wc=>∃ (kq:Nat) (zae:Bool),v111=.bool zae∧Aside0 (faa.j2 kq a0 l2 yb z7 zaf z8 zae yc yd ye yf yg yh yi yj yk ya zy zw zj=some true)∧Aside0 (kq≤k2)∧Aside0 (Kd.R (Kd.int .i64) 3 wc w.heap.size (fun k_=>some k_≠((.slice z3 zw.length z4):Value).ownBlock∧some k_≠((.slice z5 zj.length z6):Value).ownBlock) (.slice z9 zy.length z2) zy)∧Aside0 (Kd.R (Kd.int .i64) 3 wc w.heap.size (fun k_=>some k_≠((.slice z9 zy.length z2):Value).ownBlock∧some k_≠((.slice z5 zj.length z6):Value).ownBlock) (.slice z3 zw.length z4) zw)∧Aside0 (Kd.R (Kd.int .i64) 3 wc w.heap.size (fun k_=>some k_≠((.slice z9 zy.length z2):Value).ownBlock∧some k_≠((.slice z3 zw.length z4):Value).ownBlock) (.slice z5 zj.length z6) zj)∧Aside0 (wc.heap[zak]?=some (.cells (aT yc yd ye yf yg yh yi yj yk yl ya.length ym) 24 (0,0)))∧Aside0 (wc.heap[zat]?=some (.cells #[(.slice z9 zy.length z2),(.slice z3 zw.length z4),(.slice z5 zj.length z6)] 32 (0,0)))∧Aside0 (Below w.heap.size w wc))
 case first =>
  have H:=HC54.out
  clear HC54
  by_cases c58:a0=39
  ·rw [ip c58] at H
   have zaj:=bT c58
   have y3:=nF c58
   clear c58
   (first|rw [zaj]|(simp only [i64_w,i32_w];rw [zaj])|skip)
   by_cases c59:z8=true
   ·subst c59
    rw [ip rfl] at H
    have H':=aM H
    clear H
    go_wp2
    go_meet
    case rel=>exact⟨_,(true),(pF),H',⟨pO2 zab HK2⟩,⟨pR zd.out⟩,⟨pR zb.out⟩,⟨pR zc.out⟩,⟨pK ze.out⟩,⟨pK za.out⟩,⟨qB2 HB zg zx⟩⟩
   replace c59:=Bool.eq_false_iff.mpr c59
   subst c59
   rw [iN (show ¬ (false=true) by decide)] at H
   by_cases c60:z7=0
   rotate_left
   ·rw [iN c60] at H
    have y4:=bF c60
    have y5:=nT c60
    have H':=aM H
    clear H
    go_wp2
    go_meet
    case rel=>exact⟨_,(true),(pF),H',⟨pO2 zab HK2⟩,⟨pR zd.out⟩,⟨pR zb.out⟩,⟨pR zc.out⟩,⟨pK ze.out⟩,⟨pK za.out⟩,⟨qB2 HB zg zx⟩⟩
   rw [ip c60] at H
   have y4:=bT c60
   have y5:=nF c60
   clear c60
   have H':=aM H
   clear H
   go_wp2
   go_meet
   case rel=>exact⟨_,((zaf != 0)),(pF),H',⟨pO2 zab HK2⟩,⟨pR zd.out⟩,⟨pR zb.out⟩,⟨pR zc.out⟩,⟨pK ze.out⟩,⟨pK za.out⟩,⟨qB2 HB zg zx⟩⟩
  rw [iN c58] at H
  have zaj:=bF c58
  have y3:=nT c58
  (first|rw [zaj]|(simp only [i64_w,i32_w];rw [zaj])|skip)
  by_cases c61:yb ≥ 0
  rotate_left
  ·rw [iN c61] at H
   have y6:decide (0≤yb)=false:=decide_eq_false c61
   clear c61
   by_cases c73:(z8 != false)=true
   ·rw [ip c73] at H
    have y7:(z8 != false)=true:=c73
    (try (have y8:decide (z8=false)=false:=by simpa using c73))
    (try (have y9:(z8 == false)=false:=by simpa using c73))
    (try (have c73b3:¬ (z8=false):=by simpa using c73))
    clear c73
    have H':=aM H
    clear H
    go_wp2
    go_meet
    case rel=>exact⟨_,(true),(pF),H',⟨pO2 zab HK2⟩,⟨pR zd.out⟩,⟨pR zb.out⟩,⟨pR zc.out⟩,⟨pK ze.out⟩,⟨pK za.out⟩,⟨qB2 HB zg zx⟩⟩
   rw [iN c73] at H
   have y7:(z8 != false)=false:=by simpa using c73
   (try (have y8:decide (z8=false)=true:=by simpa using c73))
   (try (have y9:(z8 == false)=true:=by simpa using c73))
   clear c73
   by_cases c74:z8=true
   ·subst c74
    rw [ip rfl] at H
    have H':=aM H
    clear H
    go_wp2
    go_meet
    case rel=>exact⟨_,(false),(pF),H',⟨pO2 zab HK2⟩,⟨pR zd.out⟩,⟨pR zb.out⟩,⟨pR zc.out⟩,⟨pK ze.out⟩,⟨pK za.out⟩,⟨qB2 HB zg zx⟩⟩
   replace c74:=Bool.eq_false_iff.mpr c74
   subst c74
   rw [iN (show ¬ (false=true) by decide)] at H
   by_cases c75:z7=0
   rotate_left
   ·rw [iN c75] at H
    have yaa:=bF c75
    have yab:=nT c75
    have H':=aM H
    clear H
    go_wp2
    go_meet
    case rel=>exact⟨_,(true),(pF),H',⟨pO2 zab HK2⟩,⟨pR zd.out⟩,⟨pR zb.out⟩,⟨pR zc.out⟩,⟨pK ze.out⟩,⟨pK za.out⟩,⟨qB2 HB zg zx⟩⟩
   rw [ip c75] at H
   have yaa:=bT c75
   have yab:=nF c75
   clear c75
   have H':=aM H
   clear H
   go_wp2
   go_meet
   case rel=>exact⟨_,((zaf != 0)),(pF),H',⟨pO2 zab HK2⟩,⟨pR zd.out⟩,⟨pR zb.out⟩,⟨pR zc.out⟩,⟨pK ze.out⟩,⟨pK za.out⟩,⟨qB2 HB zg zx⟩⟩
  rw [ip c61] at H
  have y6:decide (0≤yb)=true:=decide_eq_true c61
  clear c61
  by_cases c62:(z8 != (decide (yb < (zj.length:Int))))=true
  ·rw [ip c62] at H
   have yac:(z8 != (decide (yb < (zj.length:Int))))=true:=c62
   (try (have yad:decide (z8=(decide (yb < (zj.length:Int))))=false:=by simpa using c62))
   (try (have yae:(z8 == (decide (yb < (zj.length:Int))))=false:=by simpa using c62))
   (try (have c62b3:¬ (z8=(decide (yb < (zj.length:Int)))):=by simpa using c62))
   clear c62
   have H':=aM H
   clear H
   have hnb63:=zk.out
   have hnc63:=zf.out
   have hcz64:=blk3 za.out
   go_wp2
   go_meet
   case rel=>exact⟨_,(true),(pF),H',⟨pO2 zab HK2⟩,⟨pR zd.out⟩,⟨pR zb.out⟩,⟨pR zc.out⟩,⟨pK ze.out⟩,⟨pK za.out⟩,⟨qB2 HB zg zx⟩⟩
  rw [iN c62] at H
  have yac:(z8 != (decide (yb < (zj.length:Int))))=false:=by simpa using c62
  (try (have yad:decide (z8=(decide (yb < (zj.length:Int))))=true:=by simpa using c62))
  (try (have yae:(z8 == (decide (yb < (zj.length:Int))))=true:=by simpa using c62))
  clear c62
  by_cases c65:z8=true
  ·subst c65
   rw [ip rfl] at H
   have H':=aM H
   clear H
   have hnb66:=zk.out
   have hnc66:=zf.out
   have hcz67:=blk3 za.out
   go_wp2
   go_meet
   case rel=>exact⟨_,(false),(pF),H',⟨pO2 zab HK2⟩,⟨pR zd.out⟩,⟨pR zb.out⟩,⟨pR zc.out⟩,⟨pK ze.out⟩,⟨pK za.out⟩,⟨qB2 HB zg zx⟩⟩
  replace c65:=Bool.eq_false_iff.mpr c65
  subst c65
  rw [iN (show ¬ (false=true) by decide)] at H
  by_cases c68:z7=0
  rotate_left
  ·rw [iN c68] at H
   have yaf:=bF c68
   have yag:=nT c68
   have H':=aM H
   clear H
   have hnb71:=zk.out
   have hnc71:=zf.out
   have hcz72:=blk3 za.out
   go_wp2
   go_meet
   case rel=>exact⟨_,(true),(pF),H',⟨pO2 zab HK2⟩,⟨pR zd.out⟩,⟨pR zb.out⟩,⟨pR zc.out⟩,⟨pK ze.out⟩,⟨pK za.out⟩,⟨qB2 HB zg zx⟩⟩
  rw [ip c68] at H
  have yaf:=bT c68
  have yag:=nF c68
  clear c68
  have H':=aM H
  clear H
  have hnb69:=zk.out
  have hnc69:=zf.out
  have hcz70:=blk3 za.out
  go_wp2
  go_meet
  case rel=>exact⟨_,((zaf != 0)),(pF),H',⟨pO2 zab HK2⟩,⟨pR zd.out⟩,⟨pR zb.out⟩,⟨pR zc.out⟩,⟨pK ze.out⟩,⟨pK za.out⟩,⟨qB2 HB zg zx⟩⟩
 clear HC54
 try clear c2
 try clear zav
 try clear y2
 obtain⟨kq,zae,rfl,HA,zau,zd,zb,zc,ze,za,HB⟩:=hcut
 cases kq with
 | zero=>exact absurd HA.out (by simp [faa.j2])
 | succ zbb=>?_
 have H:=HA.out
 clear HA
 simp only [faa.j2] at H
 by_cases c76:zae=true
 ·subst c76
  rw [ip rfl] at H
  cases H
 replace c76:=Bool.eq_false_iff.mpr c76
 subst c76
 rw [iN (show ¬ (false=true) by decide)] at H
 by_cases c77:z8=true
 rotate_left
 ·replace c77:=Bool.eq_false_iff.mpr c77
  subst c77
  rw [iN (show ¬ (false=true) by decide)] at H
  have H':=aM H
  clear H
  go_wp2
  go_roundg zbb
  case measure=>have:=zab.out;have:=HK2.out;have:=zau.out;omega
  case rel=>exact⟨(wrap64 (yb + 1)),(pF),H',⟨by have:=zab.out;have:=HK2.out;have:=zau.out;omega⟩,⟨pR zd.out⟩,⟨pR zb.out⟩,⟨pR zc.out⟩,⟨pK ze.out⟩,⟨pK za.out⟩,⟨qB2 HB zg zx⟩⟩
 subst c77
 rw [ip rfl] at H
 by_cases c78:0≤yb
 rotate_left
 ·rw [iN c78] at H
  cases H
 rw [ip c78] at H
 have c78b0:=dT c78
 clear c78
 by_cases c79:yb < (zw.length:Int)
 rotate_left
 ·rw [iN c79] at H
  cases H
 rw [ip c79] at H
 have c79b0:=dT c79
 clear c79
 by_cases c80:z7=(rd zw yb)
 rotate_left
 ·rw [iN c80] at H
  have yah:=bF c80
  have yai:=nT c80
  cases H
 rw [ip c80] at H
 have yah:=bT c80
 have yai:=nF c80
 clear c80
 by_cases c81:yb < (zj.length:Int)
 rotate_left
 ·rw [iN c81] at H
  cases H
 rw [ip c81] at H
 have c81b0:=dT c81
 clear c81
 by_cases c82:zaf=(rd zj yb)
 rotate_left
 ·rw [iN c82] at H
  have yaj:=bF c82
  have yak:=nT c82
  cases H
 rw [ip c82] at H
 have yaj:=bT c82
 have yak:=nF c82
 clear c82
 have H':=aM H
 clear H
 have hnb83:=zk.out
 have hnc83:=zf.out
 have hcz84:=blk3 za.out
 obtain⟨ad888,⟨⟩,hx888_0,p888,q888⟩:=zI (Kd.R_reads' zb.out).2.2 yb
 obtain⟨ad889,⟨⟩,hx889_0,p889,q889⟩:=zI (Kd.R_reads' zc.out).2.2 yb
 go_wp2
 go_roundg zbb
 case measure=>have:=zab.out;have:=HK2.out;have:=zau.out;omega
 case rel=>exact⟨(wrap64 (yb + 1)),(pF),H',⟨by have:=zab.out;have:=HK2.out;have:=zau.out;omega⟩,⟨pR zd.out⟩,⟨pR zb.out⟩,⟨pR zc.out⟩,⟨pK ze.out⟩,⟨pK za.out⟩,⟨qB2 HB zg zx⟩⟩
end Go.Proofs.Ytcdiobcldhiemaa.Q
namespace Gr
/-- How many elements dims have; 0, if they may not be. -/
def cnt (d:List Int):Int:=if chk d=0 then prod d else 0
/-- Products of what stands behind. -/
def stp:List Int→List Int
 | []=>[]
 | _ :: l=>prod l :: stp l
def steps (d:List Int):List Int:=if chk d=0 then stp d else []
/-- Are axes such as may be, those of 'seen' being taken? -/
def axv (rank:Int):List Int→List Int→Bool
 | _,[]=>true
 | seen,a :: l=>decide (0≤a) && decide (a < rank) && !(seen.contains a) && axv rank (seen ++ [a]) l
def marks (rank:Nat) (l:List Int):List Bool:=(List.range rank).map fun i:Nat=>l.contains (i:Int)
def mks (rank:Nat) (l:List Int):List Bool:=(List.range rank).map fun i:Nat=>l.isEmpty || l.contains (i:Int)
def axs (rank:Int) (l:List Int):List Bool×Int :=
 if rank < 0∨6 < rank then([],9)else if axv rank [] l=true then(mks rank.toNat l,0)else([],10)
def drp (keep:Bool):List Bool→List Int→List Int
 | m :: ms,x :: xs=>if m=true then(if keep=true then 1 :: drp keep ms xs else drp keep ms xs)else x :: drp keep ms xs
 | _,_=>[]
def drop (d axes:List Int) (keep:Bool):List Int×Int :=
 if chk d=0 then(if(axs d.length axes).2=0 then(drp keep (axs d.length axes).1 d,0)else([],(axs d.length axes).2))else([],chk d)
def at0 (l:List Int) (i:Int):Int:=l.getD i.toNat 0
def prm (d axes:List Int):List Int:=axes.map fun a=>at0 d a
def perm (d axes:List Int):List Int×Int :=
 if chk d=0 then(if axes.length=d.length∧(axs d.length axes).2=0 then(prm d axes,0)else([],10))else([],chk d)
def withd (d:List Int) (axis size:Int):List Int×Int :=
 if chk d=0 then(if axis < 0∨(d.length:Int)≤axis then([],10)else(if chk (d.set axis.toNat size)=0 then(d.set axis.toNat size,0)else([],chk (d.set axis.toNat size))))else([],chk d)
theorem chk_ok {d:List Int} (h:chk d=0):d.length≤6∧(∀ x ∈ d,1≤x)∧prod d≤64:=by
 unfold chk at h
 split at h
 ·omega
 ·rename_i h6
  split at h
  ·omega
  ·rename_i h1
   split at h
   ·omega
   ·rename_i h2
    refine⟨by omega,fun x hx=>?_,by omega⟩
    rw [Bool.not_eq_true,List.any_eq_false] at h1
    have:=h1 x hx
    simp at this
    omega
theorem ok_chk {d:List Int} (h6:d.length≤6)(h1:∀ x ∈ d,1≤x)(h2:prod d≤64):chk d=0:=by
 unfold chk
 rw [iN (by omega),iN,iN (by omega)]
 rw [Bool.not_eq_true,List.any_eq_false]
 intro x hx
 have:=h1 x hx
 simp
 omega
theorem ok_le {d:List Int} (h:chk d=0):∀ x ∈ d,x≤64:=by
 obtain⟨_,h1,h2⟩:=chk_ok h
 intro x hx
 obtain⟨a,b,rfl⟩:=List.append_of_mem hx
 rw [prod_append] at h2
 simp only [prod] at h2
 have ha:=prod_pos a (fun y hy=>h1 y (by simp [hy]))
 have hb:=prod_pos b (fun y hy=>h1 y (by simp [hy]))
 have hx1:=h1 x (by simp)
 have h3:1 * (x * prod b)≤prod a * (x * prod b):=Int.mul_le_mul_of_nonneg_right ha (Int.mul_nonneg (by omega) (by omega))
 have h4:x * 1≤x * prod b:=Int.mul_le_mul_of_nonneg_left hb (by omega)
 omega
theorem ok_drop {d:List Int} (h:chk d=0)(i:Nat):chk (d.drop i)=0:=by
 obtain⟨h6,h1,h2⟩:=chk_ok h
 refine ok_chk (by simp;omega) (fun x hx=>h1 x (List.mem_of_mem_drop hx)) ?_
 have e:prod d=prod (d.take i) * prod (d.drop i):=by rw [← prod_append,List.take_append_drop]
 have ha:=prod_pos (d.take i) (fun y hy=>h1 y (List.mem_of_mem_take hy))
 have hb:=prod_pos (d.drop i) (fun y hy=>h1 y (List.mem_of_mem_drop hy))
 have h3:1 * prod (d.drop i)≤prod (d.take i) * prod (d.drop i):=Int.mul_le_mul_of_nonneg_right ha (by omega)
 omega
theorem ok_take {d:List Int} (h:chk d=0)(i:Nat):chk (d.take i)=0:=by
 obtain⟨h6,h1,h2⟩:=chk_ok h
 have:=prod_take_le d h1 i
 exact ok_chk (by simp;omega) (fun x hx=>h1 x (List.mem_of_mem_take hx)) (by omega)
theorem cnt_ok {d:List Int} (h:chk d=0):cnt d=prod d∧1≤cnt d∧cnt d≤64:=by
 obtain⟨h6,h1,h2⟩:=chk_ok h
 have:=prod_pos d h1
 unfold cnt
 rw [ip h]
 exact⟨rfl,this,h2⟩
theorem stp_length (d:List Int):(stp d).length=d.length:=by
 induction d with
 | nil=>rfl
 | cons x d ih=>simp [stp,ih]
theorem prod_perm {a b:List Int} (h:a.Perm b):prod a=prod b:=by
 induction h with
 | nil=>rfl
 | cons x _ ih=>simp [prod,ih]
 | swap x y l=>simp only [prod];rw [← Int.mul_assoc,← Int.mul_assoc,Int.mul_comm x y]
 | trans _ _ ih1 ih2=>rw [ih1,ih2]
theorem perm_of_sub {l m:List Int} (hl:l.Nodup)(h:∀ x ∈ l,x ∈ m)(hn:m.length≤l.length):l.Perm m:=by
 induction l generalizing m with
 | nil =>
  have:m=[]:=List.eq_nil_of_length_eq_zero (by simp at hn;simp [hn])
  rw [this]
 | cons a l ih =>
  have ha:a ∈ m:=h a (by simp)
  have hp:=List.perm_cons_erase ha
  rw [List.nodup_cons] at hl
  have hle:(m.erase a).length=m.length - 1:=List.length_erase_of_mem ha
  refine(List.Perm.cons a (ih hl.2 (fun x hx=>?_) (by simp at hn;omega))).trans hp.symm
  have hx2:=h x (by simp [hx])
  refine(List.mem_erase_of_ne (fun e=>?_)).2 hx2
  exact hl.1 (e ▸ hx)
theorem axv_nodup (r:Int)(s l:List Int)(h:axv r s l=true):l.Nodup∧∀ a ∈ l,a ∉ s:=by
 induction l generalizing s with
 | nil=>simp
 | cons x l ih =>
  simp only [axv,Bool.and_eq_true,Bool.not_eq_true',decide_eq_true_eq] at h
  obtain⟨h1,h2⟩:=ih _ h.2
  have hx:x ∉ s:=by
   have:=h.1.2
   simpa using this
  refine⟨List.nodup_cons.2 ⟨fun hm=>?_,h1⟩,fun a ha=>?_⟩
  ·exact h2 x hm (by simp)
  ·rcases List.mem_cons.1 ha with rfl|ha
   ·exact hx
   ·intro hs;exact h2 a ha (by simp [hs])
theorem axv_all (r:Int)(s l:List Int)(h:axv r s l=true):∀ a ∈ l,0≤a∧a < r:=by
 induction l generalizing s with
 | nil=>simp
 | cons x l ih =>
  simp only [axv,Bool.and_eq_true,decide_eq_true_eq] at h
  intro a ha
  rcases List.mem_cons.1 ha with rfl|ha
  ·exact⟨h.1.1.1,h.1.1.2⟩
  ·exact ih _ h.2 a ha
theorem axs_axv {d l:List Int} (h:(axs d.length l).2=0):axv d.length [] l=true:=by
 unfold axs at h
 split at h
 ·simp at h
 ·split at h
  ·rename_i h2;exact h2
  ·simp at h
theorem at0_range (d:List Int):((List.range d.length).map fun i:Nat=>at0 d (i:Int))=d:=by
 apply List.ext_getElem (by simp)
 intro i h1 h2
 simp [at0,List.getD_eq_getElem?_getD,List.getElem?_eq_getElem h2]
theorem axes_perm {d l:List Int} (h:(axs d.length l).2=0)(hl:l.length=d.length):l.Perm ((List.range d.length).map fun i:Nat=>(i:Int)):=by
 have hv:=axs_axv h
 refine perm_of_sub (axv_nodup _ _ _ hv).1 (fun x hx=>?_) (by simp [hl])
 obtain⟨h0,h1⟩:=axv_all _ _ _ hv x hx
 simp only [List.mem_map,List.mem_range]
 exact⟨x.toNat,by omega,by omega⟩
theorem prm_perm {d l:List Int} (h:(axs d.length l).2=0)(hl:l.length=d.length):(prm d l).Perm d:=by
 have:=(axes_perm h hl).map (fun a=>at0 d a)
 rw [List.map_map] at this
 have e:((fun a=>at0 d a) ∘ fun i:Nat=>(i:Int))=fun i:Nat=>at0 d (i:Int):=rfl
 rw [e,at0_range] at this
 exact this
theorem chk_perm {a b:List Int} (h:a.Perm b)(hb:chk b=0):chk a=0:=by
 obtain⟨h6,h1,h2⟩:=chk_ok hb
 refine ok_chk (by rw [h.length_eq];exact h6) (fun x hx=>h1 x (h.mem_iff.1 hx)) (by rw [prod_perm h];exact h2)
/-- The place of the n-th element. -/
def dig:List Int→Int→List Int
 | [],_=>[]
 | x :: l,n=>n / prod l % x :: dig l n
/-- The number of a place. -/
def num:List Int→List Int→Int
 | _ :: d,a :: r=>a * prod d + num d r
 | _,_=>0
/-- Is it a place of these dims? -/
def inb:List Int→List Int→Bool
 | [],[]=>true
 | x :: d,a :: r=>decide (0≤a) && decide (a < x) && inb d r
 | _,_=>false
def ind (d at_:List Int):Bool:=decide (chk d=0) && inb d at_
def att (d:List Int) (n:Int):List Int×Bool:=if 0≤n∧n < cnt d then(dig d n,true)else([],false)
def plc (d at_:List Int):Int×Bool:=if ind d at_=true then(num d at_,true)else(0,false)
def alls (d:List Int):List (List Int):=if chk d=0 then(List.range (prod d).toNat).map fun n:Nat=>dig d (n:Int)else []
theorem dig_length (d:List Int) (n:Int):(dig d n).length=d.length:=by
 induction d with
 | nil=>rfl
 | cons x d ih=>simp [dig,ih]
theorem num_dig (d:List Int)(h:∀ x ∈ d,1≤x) (n:Int):num d (dig d n)=n % prod d:=by
 induction d with
 | nil=>simp [num,prod,Int.emod_one]
 | cons x d ih =>
  have hx:=h x (by simp)
  have hp:=prod_pos d (fun y hy=>h y (by simp [hy]))
  simp only [num,dig,prod]
  rw [ih (fun y hy=>h y (by simp [hy]))]
  have e1:x * prod d=prod d * x:=Int.mul_comm ..
  have h1:=Int.emod_add_mul_ediv n (prod d)
  have h2:=Int.emod_add_mul_ediv (n / prod d) x
  have h3:n=(n / prod d % x * prod d + n % prod d) + (x * prod d) * (n / prod d / x):=by
   have:prod d * (n / prod d)=prod d * (n / prod d % x) + prod d * (x * (n / prod d / x)):=by rw [← Int.mul_add,h2]
   rw [show (x * prod d) * (n / prod d / x)=prod d * (x * (n / prod d / x)) by rw [e1,Int.mul_assoc],Int.mul_comm (n / prod d % x)]
   omega
  have b1:=Int.emod_nonneg (n / prod d) (show x≠0 by omega)
  have b2:=Int.emod_lt_of_pos (n / prod d) (show 0 < x by omega)
  have b3:=Int.emod_nonneg n (show prod d≠0 by omega)
  have b4:=Int.emod_lt_of_pos n (show 0 < prod d by omega)
  have b5:0≤n / prod d % x * prod d:=Int.mul_nonneg b1 (by omega)
  have b6:(n / prod d % x + 1) * prod d≤x * prod d:=Int.mul_le_mul_of_nonneg_right (by omega) (by omega)
  rw [Int.add_mul] at b6
  have h4:=Int.add_mul_emod_self_left (n / prod d % x * prod d + n % prod d) (x * prod d) (n / prod d / x)
  rw [← h3] at h4
  rw [h4]
  exact(Int.emod_eq_of_lt (by omega) (by omega)).symm
theorem num_dig_lt (d:List Int)(h:∀ x ∈ d,1≤x) (n:Int)(h0:0≤n)(h1:n < prod d):num d (dig d n)=n:=by
 rw [num_dig d h n,Int.emod_eq_of_lt h0 h1]
theorem inb_dig (d:List Int)(h:∀ x ∈ d,1≤x) (n:Int):inb d (dig d n)=true:=by
 induction d with
 | nil=>rfl
 | cons x d ih =>
  have hx:=h x (by simp)
  simp only [inb,dig]
  rw [ih (fun y hy=>h y (by simp [hy]))]
  have b1:=Int.emod_nonneg (n / prod d) (show x≠0 by omega)
  have b2:=Int.emod_lt_of_pos (n / prod d) (show 0 < x by omega)
  simp [b1,b2]
theorem inb_length {d r:List Int} (h:inb d r=true):r.length=d.length:=by
 induction d generalizing r with
 | nil=>cases r <;> simp_all [inb]
 | cons x d ih =>
  cases r with
  | nil=>simp [inb] at h
  | cons a r =>
   simp only [inb,Bool.and_eq_true] at h
   simp [ih h.2]
theorem num_lt (d r:List Int)(h:∀ x ∈ d,1≤x)(hi:inb d r=true):0≤num d r∧num d r < prod d:=by
 induction d generalizing r with
 | nil=>cases r <;> simp [num,prod]
 | cons x d ih =>
  cases r with
  | nil=>simp [inb] at hi
  | cons a r =>
   simp only [inb,Bool.and_eq_true,decide_eq_true_eq] at hi
   obtain⟨i1,i2⟩:=ih r (fun y hy=>h y (by simp [hy])) hi.2
   have hp:=prod_pos d (fun y hy=>h y (by simp [hy]))
   simp only [num,prod]
   have b5:0≤a * prod d:=Int.mul_nonneg hi.1.1 (by omega)
   have b6:(a + 1) * prod d≤x * prod d:=Int.mul_le_mul_of_nonneg_right (by omega) (by omega)
   rw [Int.add_mul] at b6
   omega
theorem dig_add (d:List Int)(h:∀ x ∈ d,1≤x) (a m:Int):dig d (a * prod d + m)=dig d m:=by
 induction d generalizing a with
 | nil=>rfl
 | cons y d ih =>
  have hy:=h y (by simp)
  have hp:=prod_pos d (fun z hz=>h z (by simp [hz]))
  simp only [dig,prod]
  rw [show a * (y * prod d)=(a * y) * prod d by rw [Int.mul_assoc]]
  rw [ih (fun z hz=>h z (by simp [hz])) (a * y)]
  rw [Int.add_comm ((a * y) * prod d) m,Int.add_mul_ediv_right _ _ (by omega),Int.mul_comm a y,Int.add_mul_emod_self_left]
theorem dig_num (d r:List Int)(h:∀ x ∈ d,1≤x)(hi:inb d r=true):dig d (num d r)=r:=by
 induction d generalizing r with
 | nil=>cases r <;> simp_all [inb,dig]
 | cons x d ih =>
  cases r with
  | nil=>simp [inb] at hi
  | cons a r =>
   simp only [inb,Bool.and_eq_true,decide_eq_true_eq] at hi
   have hd:∀ y ∈ d,1≤y:=fun y hy=>h y (by simp [hy])
   obtain⟨i1,i2⟩:=num_lt d r hd hi.2
   have hp:=prod_pos d hd
   simp only [num,dig]
   rw [dig_add d hd,ih r hd hi.2]
   rw [Int.add_comm,Int.add_mul_ediv_right _ _ (by omega),Int.ediv_eq_zero_of_lt i1 i2,Int.zero_add,Int.emod_eq_of_lt hi.1.1 hi.1.2]
theorem dig_snoc (p:List Int) (x:Int)(h:∀ y ∈ p,1≤y)(hx:1≤x) (m:Int):dig (p ++ [x]) m=dig p (m / x) ++ [m % x]:=by
 induction p with
 | nil=>simp [dig,prod]
 | cons y p ih =>
  simp only [List.cons_append,dig]
  rw [ih (fun z hz=>h z (by simp [hz])),prod_append]
  simp only [prod,Int.mul_one]
  rw [Int.mul_comm (prod p) x,Int.ediv_ediv,iN (by omega),Int.sub_zero]
theorem range_mul {α:Type} (f:Nat→α)(P X:Nat):(List.range (P * X)).map f=(List.range P).flatMap fun n=>(List.range X).map fun v=>f (n * X + v):=by
 induction P with
 | zero=>simp
 | succ P ih =>
  rw [List.range_succ,List.flatMap_append,← ih,Nat.succ_mul,List.range_add,List.map_append,List.map_map]
  simp only [List.flatMap_cons,List.flatMap_nil,List.append_nil]
  rfl
/-- All places of a prefix. -/
def pre (p:List Int):List (List Int):=(List.range (prod p).toNat).map fun n:Nat=>dig p (n:Int)
theorem pre_nil:pre []=[[]]:=by decide
theorem pre_snoc (p:List Int) (x:Int)(h:∀ y ∈ p,1≤y)(hx:1≤x):pre (p ++ [x])=(pre p).flatMap fun q=>(List.range x.toNat).map fun v:Nat=>q ++ [(v:Int)]:=by
 have hp:=prod_pos p h
 unfold pre
 rw [prod_append]
 simp only [prod,Int.mul_one]
 rw [Int.toNat_mul (by omega) (by omega),range_mul,List.flatMap_map]
 congr 1
 funext n
 apply List.map_congr_left
 intro v hv
 rw [List.mem_range] at hv
 rw [dig_snoc p x h hx]
 have e:((n * x.toNat + v:Nat):Int)=(v:Int) + (n:Int) * x:=by
  rw [Int.natCast_add,Int.natCast_mul,Int.toNat_of_nonneg (by omega)];omega
 rw [e,Int.add_mul_ediv_right _ _ (by omega),Int.ediv_eq_zero_of_lt (by omega) (by omega),Int.zero_add,Int.add_mul_emod_self_right,Int.emod_eq_of_lt (by omega) (by omega)]
theorem pre_length (p:List Int):(pre p).length=(prod p).toNat:=by simp [pre]
theorem alls_ok {d:List Int} (h:chk d=0):alls d=pre d:=by unfold alls;rw [ip h];rfl
theorem alls_length (d:List Int):((alls d).length:Int)=cnt d:=by
 unfold alls cnt
 split
 ·rename_i h
  have:=prod_pos d (chk_ok h).2.1
  simp;omega
 ·rfl
theorem alls_get (d:List Int)(n:Nat)(h:n < (alls d).length):(alls d)[n]=dig d (n:Int):=by
 unfold alls at h ⊢
 split
 ·simp
 ·rename_i hc;rw [iN hc] at h;simp at h
def inr (l:List Int) (m:Int):Bool:=l.all fun i=>decide (0≤i) && decide (i < m)
def putd (d:List Int) (n a:Int) (l:List Int):List Int×Int :=
 if(withd d n a).2=0 then(if(l.length:Int)=at0 d n then(if inr l a=true then((withd d n a).1,0)else([],11))else([],8))else([],(withd d n a).2)
def takd (d:List Int) (n:Int) (l:List Int):List Int×Int :=
 if n < 0∨(d.length:Int)≤n then([],10)else if inr l (at0 d n)=true then withd d n (l.length:Int)else([],11)
/-- Where an element goes, or comes from. -/
def mvp (n:Int) (l p:List Int):List Int:=p.set n.toNat (at0 l (at0 p n))
theorem inr_cons (x:Int)(l:List Int) (m:Int):inr (x :: l) m=true ↔ (0≤x∧x < m)∧inr l m=true:=by
 simp [inr,List.all_cons]
theorem inr_a29 {l:List Int} {m:Int} (h:inr l m=true)(i:Nat)(hi:i < l.length):0≤l[i]∧l[i] < m:=by
 unfold inr at h
 rw [List.all_eq_true] at h
 simpa using h _ (List.getElem_mem hi)
theorem at0_g29 (l:List Int)(i:Nat)(h:i < l.length):at0 l (i:Int)=l[i]:=by
 simp [at0,List.getD_eq_getElem?_getD,List.getElem?_eq_getElem h]
theorem inb_a29 {d p:List Int} (h:inb d p=true)(i:Nat)(hi:i < d.length):0≤at0 p (i:Int)∧at0 p (i:Int) < at0 d (i:Int):=by
 induction d generalizing p i with
 | nil=>simp at hi
 | cons x d ih =>
  cases p with
  | nil=>simp [inb] at h
  | cons a r =>
   simp only [inb,Bool.and_eq_true,decide_eq_true_eq] at h
   cases i with
   | zero=>simpa [at0] using h.1
   | succ i =>
    have:=ih h.2 i (by simpa using hi)
    simpa [at0] using this
theorem withd_o29 {d:List Int} {n a:Int} (h:(withd d n a).2=0):chk d=0∧0≤n∧n < (d.length:Int)∧chk (d.set n.toNat a)=0∧withd d n a=(d.set n.toNat a,0):=by
 unfold withd at h ⊢
 split at h
 ·rename_i h1
  split at h
  ·simp at h
  ·rename_i h2
   split at h
   ·rename_i h3
    exact⟨h1,by omega,by omega,h3,by rw [ip h1,iN h2,ip h3]⟩
   ·exact absurd h (by assumption)
 ·exact absurd h (by assumption)
theorem putd_ok {d:List Int} {n a:Int} {l:List Int} (h:(putd d n a l).2=0) :
  chk d=0∧0≤n∧n < (d.length:Int)∧chk (d.set n.toNat a)=0∧(l.length:Int)=at0 d n∧inr l a=true∧putd d n a l=(d.set n.toNat a,0):=by
 unfold putd at h ⊢
 split at h
 ·rename_i h1
  obtain⟨w1,w2,w3,w4,w5⟩:=withd_o29 h1
  split at h
  ·rename_i h2
   split at h
   ·rename_i h3
    exact⟨w1,w2,w3,w4,h2,h3,by rw [ip h1,ip h2,ip h3,w5]⟩
   ·simp at h
  ·simp at h
 ·exact absurd h (by assumption)
theorem putd_err {d:List Int} {n a:Int} {l:List Int} (h:¬ (putd d n a l).2=0):(putd d n a l).1=[]:=by
 unfold putd at h ⊢
 split
 ·split
  ·split
   ·rename_i h1 h2 h3
    rw [ip h1,ip h2,ip h3] at h
    exact absurd rfl h
   ·rfl
  ·rfl
 ·rfl
def plr (d r:List Int):Int:=if ind d r=true then num d r else -1
theorem inb_dropn (d r:List Int)(h:inb d r=true)(i:Nat):inb (d.drop i) (r.drop i)=true:=by
 induction i generalizing d r with
 | zero=>simpa using h
 | succ i ih =>
  cases d with
  | nil=>cases r <;> simp_all [inb]
  | cons x d =>
   cases r with
   | nil=>simp [inb] at h
   | cons a r =>
    simp only [inb,Bool.and_eq_true] at h
    simpa using ih d r h.2
/-- How far a place lies from a view's first element. -/
def ofs:List Int→List Int→Int
 | a :: p,t :: s=>a * t + ofs p s
 | _,_=>0
/-- Are the steps such as may be in a room? -/
def sok (room:Int):List Int→List Int→Bool
 | x :: d,t :: s=>(decide (x≤1) || (decide (-room < t) && decide (t < room))) && sok room d s
 | _,_=>true
def low:List Int→List Int→Int
 | x :: d,t :: s=>(if(x - 1) * t < 0 then(x - 1) * t else 0) + low d s
 | _,_=>0
def hgh:List Int→List Int→Int
 | x :: d,t :: s=>(if(x - 1) * t < 0 then 0 else(x - 1) * t) + hgh d s
 | _,_=>0
/-- All but the range of the cells. -/
abbrev vok (o:Int) (d s:List Int) (room:Int):Prop:=chk d=0∧s.length=d.length∧room≤64∧0≤o∧o < room∧sok room d s=true
def rgt (o:Int) (d s:List Int) (room:Int):Bool:=decide (vok o d s room) && decide (0≤o + low d s) && decide (o + hgh d s < room)
def cls (o:Int) (d s:List Int) (room:Int):List Int:=if rgt o d s room=true then(alls d).map fun p=>o + ofs p s else []
/-- One behind the other? -/
def row:List Int→Bool
 | []=>false
 | a :: l=>decide (a :: l=(List.range (l.length + 1)).map fun i:Nat=>a + (i:Int))
def rws:List Int→List Int→Bool
 | x :: d,t :: s=>rws d s && (decide (x≤1) || decide (t=prod d))
 | _,_=>true
theorem mem_alls {d:List Int} (h:chk d=0) {p:List Int}:p ∈ alls d ↔ inb d p=true:=by
 obtain⟨h6,h1,h2⟩:=chk_ok h
 rw [alls_ok h]
 unfold pre
 rw [List.mem_map]
 constructor
 ·rintro⟨n,_,rfl⟩;exact inb_dig d h1 _
 ·intro hi
  obtain⟨q1,q2⟩:=num_lt d p h1 hi
  refine⟨(num d p).toNat,?_,?_⟩
  ·rw [List.mem_range];omega
  ·rw [Int.toNat_of_nonneg q1];exact dig_num d p h1 hi
theorem mul_between {a x t:Int} (h0:0≤a)(h1:a≤x - 1):(if(x - 1) * t < 0 then(x - 1) * t else 0)≤a * t∧a * t≤(if(x - 1) * t < 0 then 0 else(x - 1) * t):=by
 rcases Int.lt_or_le t 0 with ht|ht
 ·have e1:(x - 1) * t≤a * t:=Int.mul_le_mul_of_nonpos_right h1 (by omega)
  have e2:a * t≤0:=Int.mul_nonpos_of_nonneg_of_nonpos h0 (by omega)
  split <;> omega
 ·have e1:a * t≤(x - 1) * t:=Int.mul_le_mul_of_nonneg_right h1 ht
  have e2:0≤a * t:=Int.mul_nonneg h0 ht
  split <;> omega
theorem ofs_between (d s p:List Int)(hi:inb d p=true):low d s≤ofs p s∧ofs p s≤hgh d s:=by
 induction d generalizing s p with
 | nil=>cases p <;> simp_all [inb,ofs,low,hgh]
 | cons x d ih =>
  cases p with
  | nil=>simp [inb] at hi
  | cons a p =>
   simp only [inb,Bool.and_eq_true,decide_eq_true_eq] at hi
   cases s with
   | nil=>simp [ofs,low,hgh]
   | cons t s =>
    obtain⟨i1,i2⟩:=ih s p hi.2
    obtain⟨j1,j2⟩:=mul_between (t:=t) hi.1.1 (show a≤x - 1 by omega)
    simp only [ofs,low,hgh]
    omega
/-- The place of the lowest cell, and that of the highest one. -/
def lop:List Int→List Int→List Int
 | x :: d,t :: s=>(if(x - 1) * t < 0 then x - 1 else 0) :: lop d s
 | _ :: d,[]=>0 :: lop d []
 | [],_=>[]
def hip:List Int→List Int→List Int
 | x :: d,t :: s=>(if(x - 1) * t < 0 then 0 else x - 1) :: hip d s
 | _ :: d,[]=>0 :: hip d []
 | [],_=>[]
theorem lop_ok (d s:List Int)(h:∀ x ∈ d,1≤x):inb d (lop d s)=true∧ofs (lop d s) s=low d s:=by
 induction d generalizing s with
 | nil=>simp [lop,inb,ofs,low]
 | cons x d ih =>
  have hx:=h x (by simp)
  cases s with
  | nil =>
   obtain⟨i1,_⟩:=ih [] (fun y hy=>h y (by simp [hy]))
   refine⟨?_,by simp [lop,ofs,low]⟩
   simp [lop,inb,i1];omega
  | cons t s =>
   obtain⟨i1,i2⟩:=ih s (fun y hy=>h y (by simp [hy]))
   simp only [lop,inb,ofs,low,i1,i2,Bool.and_true,Bool.and_eq_true,decide_eq_true_eq]
   split
   ·exact⟨⟨by omega,by omega⟩,rfl⟩
   ·exact⟨⟨by omega,by omega⟩,by simp⟩
theorem hip_ok (d s:List Int)(h:∀ x ∈ d,1≤x):inb d (hip d s)=true∧ofs (hip d s) s=hgh d s:=by
 induction d generalizing s with
 | nil=>simp [hip,inb,ofs,hgh]
 | cons x d ih =>
  have hx:=h x (by simp)
  cases s with
  | nil =>
   obtain⟨i1,_⟩:=ih [] (fun y hy=>h y (by simp [hy]))
   refine⟨?_,by simp [hip,ofs,hgh]⟩
   simp [hip,inb,i1];omega
  | cons t s =>
   obtain⟨i1,i2⟩:=ih s (fun y hy=>h y (by simp [hy]))
   simp only [hip,inb,ofs,hgh,i1,i2,Bool.and_true,Bool.and_eq_true,decide_eq_true_eq]
   split
   ·exact⟨⟨by omega,by omega⟩,by simp⟩
   ·exact⟨⟨by omega,by omega⟩,rfl⟩
/-- All cells lie in the room just where the lowest and the highest do. -/
theorem range_iff {d:List Int} (h:chk d=0) (o room:Int)(s:List Int):(∀ p ∈ alls d,0≤o + ofs p s∧o + ofs p s < room) ↔ 0≤o + low d s∧o + hgh d s < room:=by
 have h1:=(chk_ok h).2.1
 constructor
 ·intro ha
  obtain⟨l1,l2⟩:=lop_ok d s h1
  obtain⟨u1,u2⟩:=hip_ok d s h1
  have a1:=ha _ ((mem_alls h).2 l1)
  have a2:=ha _ ((mem_alls h).2 u1)
  rw [l2] at a1;rw [u2] at a2
  exact⟨a1.1,a2.2⟩
 ·rintro⟨hl,hh⟩ p hp
  obtain⟨i1,i2⟩:=ofs_between d s p ((mem_alls h).1 hp)
  omega
theorem rgt_iff {o:Int} {d s:List Int} {room:Int} (hv:vok o d s room):rgt o d s room=true ↔ ∀ p ∈ alls d,0≤o + ofs p s∧o + ofs p s < room:=by
 rw [range_iff hv.1]
 unfold rgt
 simp [hv]
theorem rgt_ok {o:Int} {d s:List Int} {room:Int} (h:rgt o d s room=true):vok o d s room∧0≤o + low d s∧o + hgh d s < room:=by
 unfold rgt at h
 simpa [and_assoc] using h
theorem sok_get {r:Int} {d s:List Int} (h:sok r d s=true):∀ i,(hd:i < d.length)→(hs:i < s.length)→d[i]≤1∨(-r < s[i]∧s[i] < r):=by
 induction d generalizing s with
 | nil=>intro i hd;simp at hd
 | cons x d ih =>
  cases s with
  | nil=>intro i _ hs;simp at hs
  | cons t s =>
   simp only [sok,Bool.and_eq_true,Bool.or_eq_true,decide_eq_true_eq] at h
   intro i hd hs
   cases i with
   | zero=>exact h.1
   | succ i=>exact ih h.2 i (by simpa using hd) (by simpa using hs)
theorem cls_ok {o:Int} {d s:List Int} {room:Int} (h:rgt o d s room=true):cls o d s room=(alls d).map fun p=>o + ofs p s:=by unfold cls;rw [ip h]
theorem cls_none {o:Int} {d s:List Int} {room:Int} (h:¬ rgt o d s room=true):cls o d s room=[]:=by unfold cls;rw [iN h]
theorem cls_length (o:Int)(d s:List Int) (room:Int):((cls o d s room).length:Int)=if rgt o d s room=true then cnt d else 0:=by
 unfold cls
 split
 ·rw [List.length_map,alls_length]
 ·rfl
theorem cls_get {o:Int} {d s:List Int} {room:Int} (h:rgt o d s room=true)(n:Nat)(hn:n < (cls o d s room).length):(cls o d s room)[n]=o + ofs (dig d (n:Int)) s:=by
 have e:=cls_ok h
 have hn':n < (alls d).length:=by rw [e,List.length_map] at hn;exact hn
 have:(cls o d s room)[n]=((alls d).map fun p=>o + ofs p s)[n]'(by rw [List.length_map];exact hn'):=by simp only [e]
 rw [this,List.getElem_map,alls_get d n hn']
theorem ofs_dig0 (d s:List Int)(h:∀ x ∈ d,1≤x):ofs (dig d 0) s=0:=by
 induction d generalizing s with
 | nil=>simp [dig,ofs]
 | cons x d ih =>
  cases s with
  | nil=>simp [ofs]
  | cons t s=>simp [dig,ofs,ih s (fun y hy=>h y (by simp [hy]))]
theorem dig_mod (d:List Int)(h:∀ x ∈ d,1≤x) (n:Int):dig d n=dig d (n % prod d):=by
 have:=dig_add d h (n / prod d) (n % prod d)
 rw [Int.mul_comm,Int.mul_ediv_add_emod] at this
 exact this
theorem rws_iff (d s:List Int)(h:∀ x ∈ d,1≤x)(hl:s.length=d.length):rws d s=true ↔ ∀ n:Int,0≤n→n < prod d→ofs (dig d n) s=n:=by
 induction d generalizing s with
 | nil =>
  cases s with
  | nil =>
   simp only [rws,true_iff]
   intro n h0 h1
   simp only [prod] at h1
   simp [dig,ofs];omega
  | cons t s=>simp at hl
 | cons x d ih =>
  cases s with
  | nil=>simp at hl
  | cons t s =>
   have hd:∀ y ∈ d,1≤y:=fun y hy=>h y (by simp [hy])
   have hx:=h x (by simp)
   have hp:=prod_pos d hd
   have ih:=ih s hd (by simpa using hl)
   simp only [rws,Bool.and_eq_true,Bool.or_eq_true,decide_eq_true_eq]
   constructor
   ·rintro⟨hr,ht⟩ n h0 h1
    simp only [prod] at h1
    have hr:=ih.1 hr
    simp only [dig,ofs]
    rw [dig_mod d hd n,hr _ (Int.emod_nonneg _ (by omega)) (Int.emod_lt_of_pos _ (by omega))]
    have hq:n / prod d < x:=Int.ediv_lt_of_lt_mul (by omega) h1
    have hq0:0≤n / prod d:=Int.ediv_nonneg h0 (by omega)
    rw [Int.emod_eq_of_lt hq0 hq]
    have hdm:=Int.mul_ediv_add_emod n (prod d)
    rcases ht with ht|ht
    ·have:n / prod d=0:=by omega
     rw [this] at hdm ⊢;omega
    ·rw [ht,Int.mul_comm];omega
   ·intro ha
    have hx1:prod (x :: d)=x * prod d:=rfl
    have hle:1 * prod d≤x * prod d:=Int.mul_le_mul_of_nonneg_right hx (by omega)
    refine⟨ih.2 (fun n h0 h1=>?_),?_⟩
    ·have:=ha n h0 (by rw [hx1];omega)
     simp only [dig,ofs] at this
     rw [Int.ediv_eq_zero_of_lt h0 h1,Int.zero_emod,Int.zero_mul,Int.zero_add] at this
     exact this
    ·rcases Int.lt_or_le 1 x with hx2|hx2
     ·right
      have hle2:2 * prod d≤x * prod d:=Int.mul_le_mul_of_nonneg_right (by omega) (by omega)
      have:=ha (prod d) (by omega) (by rw [hx1];omega)
      simp only [dig,ofs] at this
      rw [Int.ediv_self (by omega),Int.emod_eq_of_lt (by omega) hx2,Int.one_mul] at this
      have e:=dig_mod d hd (prod d)
      rw [Int.emod_self] at e
      rw [e,ofs_dig0 d s hd] at this
      omega
     ·left;exact hx2
theorem row_iff (l:List Int):row l=true ↔ 0 < l.length∧∀ i,(h:i < l.length)→l[i]=l[0] + (i:Int):=by
 cases l with
 | nil=>simp [row]
 | cons a l =>
  simp only [row,decide_eq_true_eq]
  constructor
  ·intro h
   refine⟨by simp,fun i hi=>?_⟩
   have:(a :: l)[i]?=((List.range (l.length + 1)).map fun i:Nat=>a + (i:Int))[i]?:=by rw [← h]
   rw [List.getElem?_eq_getElem hi,List.getElem?_map,List.getElem?_range (by simpa using hi)] at this
   simpa using this
  ·rintro⟨_,h⟩
   apply List.ext_getElem
   ·simp
   ·intro i h1 h2
    rw [h i h1];simp
theorem rws_row {o:Int} {d s:List Int} (h:rgt o d s 64=true):rws d s=row (cls o d s 64):=by
 obtain⟨hv,_,_⟩:=rgt_ok h
 obtain⟨h6,h1,h2⟩:=chk_ok hv.1
 have hlen:=cls_length o d s 64
 rw [ip h,(cnt_ok hv.1).1] at hlen
 have hp:=prod_pos d h1
 have key:rws d s=true ↔ row (cls o d s 64)=true:=by
  rw [rws_iff d s h1 hv.2.1,row_iff]
  constructor
  ·intro ha
   refine⟨by omega,fun i hi=>?_⟩
   rw [cls_get h,cls_get h,ha _ (by omega) (by omega),show (((0:Nat):Int))=0 from rfl,ofs_dig0 d s h1]
   omega
  ·rintro⟨_,ha⟩ n h0 hn
   obtain⟨m,rfl⟩:=Int.eq_ofNat_of_zero_le h0
   have:=ha m (by omega)
   rw [cls_get h,cls_get h,show (((0:Nat):Int))=0 from rfl,ofs_dig0 d s h1] at this
   omega
 rcases hb:rws d s with _|_ <;> rcases hc:row (cls o d s 64)with _|_ <;> simp_all
theorem stp_low (d:List Int)(h:∀ x ∈ d,1≤x):low d (stp d)=0∧hgh d (stp d)=prod d - 1∧rws d (stp d)=true:=by
 induction d with
 | nil=>simp [low,hgh,rws,prod]
 | cons x d ih =>
  obtain⟨i1,i2,i3⟩:=ih (fun y hy=>h y (by simp [hy]))
  have hx:=h x (by simp)
  have hp:=prod_pos d (fun y hy=>h y (by simp [hy]))
  have h0:0≤(x - 1) * prod d:=Int.mul_nonneg (by omega) (by omega)
  simp only [stp,low,hgh,rws,prod,i1,i2,i3]
  rw [iN (by omega),iN (by omega)]
  refine⟨rfl,?_,by simp⟩
  rw [Int.sub_mul];omega
theorem stp_sok (d:List Int)(h:∀ x ∈ d,1≤x)(hp64:prod d≤64):sok 64 d (stp d)=true:=by
 induction d with
 | nil=>rfl
 | cons x d ih =>
  have hx:=h x (by simp)
  have hp:=prod_pos d (fun y hy=>h y (by simp [hy]))
  simp only [prod] at hp64
  have hle:1 * prod d≤x * prod d:=Int.mul_le_mul_of_nonneg_right hx (by omega)
  simp only [stp,sok,Bool.and_eq_true,Bool.or_eq_true,decide_eq_true_eq]
  refine⟨?_,ih (fun y hy=>h y (by simp [hy])) (by omega)⟩
  rcases Int.lt_or_le 1 x with hx2|hx2
  ·have hle2:2 * prod d≤x * prod d:=Int.mul_le_mul_of_nonneg_right (by omega) (by omega)
   right;omega
  ·left;exact hx2
theorem whole_rgt {d:List Int} (h:chk d=0):rgt 0 d (stp d) 64=true:=by
 obtain⟨h6,h1,h2⟩:=chk_ok h
 obtain⟨i1,i2,i3⟩:=stp_low d h1
 unfold rgt vok
 simp [h,stp_length,stp_sok d h1 h2,i1,i2]
 omega
theorem whole_row {d:List Int} (h:chk d=0):row (cls 0 d (stp d) 64)=true:=by
 rw [← rws_row (whole_rgt h)];exact(stp_low d (chk_ok h).2.1).2.2
/-- Cells in a room say that the steps are such as may be. -/
theorem sok_of_cells (o r:Int)(d s:List Int)(h:∀ x ∈ d,1≤x)(hl:s.length=d.length)(hc:∀ p,inb d p=true→0≤o + ofs p s∧o + ofs p s < r):sok r d s=true:=by
 induction d generalizing s with
 | nil=>cases s <;> rfl
 | cons x d ih =>
  cases s with
  | nil=>simp at hl
  | cons t s =>
   have hx:=h x (by simp)
   have hd:∀ y ∈ d,1≤y:=fun y hy=>h y (by simp [hy])
   simp only [sok,Bool.and_eq_true,Bool.or_eq_true,decide_eq_true_eq]
   constructor
   ·rcases Int.lt_or_le 1 x with hx2|hx2
    ·right
     have a0:=hc (0 :: dig d 0) (by simp [inb,inb_dig d hd 0];omega)
     have a1:=hc (1 :: dig d 0) (by simp [inb,inb_dig d hd 0];omega)
     simp only [ofs,ofs_dig0 d s hd] at a0 a1
     omega
    ·left;exact hx2
   ·refine ih s hd (by simpa using hl) (fun p hp=>?_)
    have:=hc (0 :: p) (by simp [inb,hp];omega)
    simp only [ofs,Int.zero_mul,Int.zero_add] at this
    exact this
/-- A view is right just where its cells lie in the room. -/
theorem rgt_cells (o:Int)(d s:List Int) (r:Int):rgt o d s r=true ↔ chk d=0∧s.length=d.length∧r≤64∧∀ p,inb d p=true→0≤o + ofs p s∧o + ofs p s < r:=by
 constructor
 ·intro h
  obtain⟨hv,_,_⟩:=rgt_ok h
  exact⟨hv.1,hv.2.1,hv.2.2.1,fun p hp=>(rgt_iff hv).1 h p ((mem_alls hv.1).2 hp)⟩
 ·rintro⟨h1,h2,h3,h4⟩
  have hd:=(chk_ok h1).2.1
  have h0:=h4 (dig d 0) (inb_dig d hd 0)
  rw [ofs_dig0 d s hd,Int.add_zero] at h0
  have hv:vok o d s r:=⟨h1,h2,h3,h0.1,h0.2,sok_of_cells o r d s hd h2 h4⟩
  exact(rgt_iff hv).2 (fun p hp=>h4 p ((mem_alls h1).1 hp))
/-- A view whose elements are elements of another one. -/
theorem rgt_sub {o o':Int} {d d' s s':List Int} {r:Int} (h:rgt o d s r=true)(hc:chk d'=0)(hl:s'.length=d'.length)(hp:∀ p,inb d' p=true→∃ q,inb d q=true∧o' + ofs p s'=o + ofs q s):rgt o' d' s' r=true:=by
 obtain⟨_,_,h3,h4⟩:=(rgt_cells _ _ _ _).1 h
 refine(rgt_cells _ _ _ _).2 ⟨hc,hl,h3,fun p hi=>?_⟩
 obtain⟨q,hq,e⟩:=hp p hi
 rw [e];exact h4 q hq
theorem ofs_set (p s:List Int)(i:Nat)(h:i < p.length)(hs:i < s.length) (a t:Int):ofs (p.set i a) (s.set i t)=ofs p s - p[i] * s[i] + a * t:=by
 induction p generalizing s i with
 | nil=>simp at h
 | cons b p ih =>
  cases s with
  | nil=>simp at hs
  | cons u s =>
   cases i with
   | zero=>simp [ofs];omega
   | succ i =>
    have:=ih s i (by simpa using h) (by simpa using hs)
    simp only [List.set_cons_succ,ofs,List.getElem_cons_succ,this]
    omega
theorem inb_get {d p:List Int} (hi:inb d p=true)(i:Nat)(h:i < d.length)(hp:i < p.length):0≤p[i]∧p[i] < d[i]:=by
 induction d generalizing p i with
 | nil=>simp at h
 | cons x d ih =>
  cases p with
  | nil=>simp [inb] at hi
  | cons b p =>
   simp only [inb,Bool.and_eq_true,decide_eq_true_eq] at hi
   cases i with
   | zero=>exact hi.1
   | succ i=>exact ih hi.2 i (by simpa using h) (by simpa using hp)
/-- Flip: offset, dims, steps, error. -/
def flp (o:Int) (d s:List Int) (a:Int):Int×List Int×List Int×Int :=
 if rgt o d s 64=true then(if a < 0∨(d.length:Int)≤a then(0,[],[],10)else if 1 < at0 d a then(o + (at0 d a - 1) * at0 s a,d,s.set a.toNat (-(at0 s a)),0)else(o,d,s,0))else(0,[],[],1)
theorem flp_ofs (o:Int)(d s p:List Int)(i:Nat)(h:i < d.length)(hs:s.length=d.length)(hi:inb d p=true) :
  o + (at0 d (i:Int) - 1) * at0 s (i:Int) + ofs p (s.set i (-(at0 s (i:Int))))=o + ofs (p.set i (at0 d (i:Int) - 1 - at0 p (i:Int))) s:=by
 have hp:=inb_length hi
 have e1:=ofs_set p s i (by omega) (by omega) p[i] (-(at0 s (i:Int)))
 have e2:=ofs_set p s i (by omega) (by omega) (at0 d (i:Int) - 1 - at0 p (i:Int)) s[i]
 rw [List.set_getElem_self] at e1 e2
 have a1:at0 s (i:Int)=s[i]:=by simp [at0,List.getD_eq_getElem?_getD,List.getElem?_eq_getElem (show i < s.length by omega)]
 have a2:at0 p (i:Int)=p[i]:=by simp [at0,List.getD_eq_getElem?_getD,List.getElem?_eq_getElem (show i < p.length by omega)]
 rw [e1,e2,a1,a2,Int.sub_mul (at0 d (i:Int) - 1),Int.mul_neg]
 omega
def pmt (o:Int) (d s axes:List Int):Int×List Int×List Int×Int :=
 if rgt o d s 64=true then(if(perm d axes).2=0 then(o,prm d axes,prm s axes,0)else(0,[],[],(perm d axes).2))else(0,[],[],1)
theorem at0_get (l:List Int)(i:Nat)(h:i < l.length):at0 l (i:Int)=l[i]:=by
 simp [at0,List.getD_eq_getElem?_getD,List.getElem?_eq_getElem h]
theorem at0_set_same (l:List Int)(i:Nat)(h:i < l.length) (x:Int):at0 (l.set i x) (i:Int)=x:=by
 rw [at0_get _ _ (by simpa using h),List.getElem_set_self]
theorem at0_set_other (l:List Int)(i j:Nat)(h:i≠j) (x:Int):at0 (l.set i x) (j:Int)=at0 l (j:Int):=by
 simp [at0,List.getD_eq_getElem?_getD,List.getElem?_set_ne h]
theorem at0_ext {a b:List Int} (hl:a.length=b.length)(h:∀ j:Nat,j < a.length→at0 a (j:Int)=at0 b (j:Int)):a=b:=by
 apply List.ext_getElem hl
 intro j h1 h2
 have:=h j h1
 rwa [at0_get _ _ h1,at0_get _ _ h2] at this
theorem prm_length (d l:List Int):(prm d l).length=l.length:=by simp [prm]
theorem at0_prm (d l:List Int)(k:Nat)(h:k < l.length):at0 (prm d l) (k:Int)=at0 d (at0 l (k:Int)):=by
 rw [at0_get _ _ (by rw [prm_length];exact h),at0_get _ _ h]
 simp [prm]
theorem inb_iff (d p:List Int):inb d p=true ↔ p.length=d.length∧∀ j:Nat,j < d.length→0≤at0 p (j:Int)∧at0 p (j:Int) < at0 d (j:Int):=by
 constructor
 ·intro h
  have hl:=inb_length h
  refine⟨hl,fun j hj=>?_⟩
  rw [at0_get p j (by omega),at0_get d j hj]
  exact inb_get h j hj (by omega)
 ·rintro⟨hl,h⟩
  induction d generalizing p with
  | nil=>cases p <;> simp_all [inb]
  | cons x d ih =>
   cases p with
   | nil=>simp at hl
   | cons a p =>
    have h0:=h 0 (by simp)
    simp [at0] at h0
    simp only [inb,Bool.and_eq_true,decide_eq_true_eq]
    refine⟨h0,ih p (by simpa using hl) (fun j hj=>?_)⟩
    have:=h (j + 1) (by simpa using hj)
    simpa [at0] using this
/-- A permutation of the axes. -/
structure Pm (l:List Int):Prop where
 nodup:l.Nodup
 range:∀ a ∈ l,0≤a∧a < (l.length:Int)
 all:∀ j:Nat,j < l.length→(j:Int) ∈ l
theorem pm_of {d l:List Int} (h:(axs d.length l).2=0)(hl:l.length=d.length):Pm l:=by
 have hv:=axs_axv h
 have hp:=axes_perm h hl
 refine⟨(axv_nodup _ _ _ hv).1,fun a ha=>?_,fun j hj=>?_⟩
 ·have:=axv_all _ _ _ hv a ha;rw [hl];exact this
 ·rw [hp.mem_iff]
  simp only [List.mem_map,List.mem_range]
  exact⟨j,by omega,rfl⟩
theorem pm_perm {l:List Int} (h:Pm l):l.Perm ((List.range l.length).map fun i:Nat=>(i:Int)) :=
 perm_of_sub h.nodup (fun x hx=>by
  obtain⟨h0,h1⟩:=h.range x hx
  simp only [List.mem_map,List.mem_range]
  exact⟨x.toNat,by omega,by omega⟩) (by simp)
/-- Axes put back: one after the other. -/
def bks (n:Nat):List Int→Nat→List Int→List Int
 | [],_,out=>out
 | a :: l,i,out=>bks n l (i + 1) (if 0≤a∧a < (n:Int)then out.set a.toNat (i:Int)else out)
def bk (l:List Int):List Int:=bks l.length l 0 (List.replicate l.length 0)
theorem bks_length (n:Nat)(l:List Int)(i:Nat)(out:List Int):(bks n l i out).length=out.length:=by
 induction l generalizing i out with
 | nil=>rfl
 | cons a l ih=>rw [bks,ih];split <;> simp
theorem bk_length (l:List Int):(bk l).length=l.length:=by unfold bk;rw [bks_length];simp
theorem bks_other (n:Nat)(l:List Int)(i:Nat)(out:List Int)(j:Nat)(h:(j:Int) ∉ l):at0 (bks n l i out) (j:Int)=at0 out (j:Int):=by
 induction l generalizing i out with
 | nil=>rfl
 | cons a l ih =>
  rw [bks,ih _ _ (fun hm=>h (by simp [hm]))]
  split
  ·rename_i ha
   exact at0_set_other _ _ _ (fun e=>h (by simp;omega)) _
  ·rfl
theorem bks_at (n:Nat)(l:List Int)(hd:l.Nodup)(hr:∀ a ∈ l,0≤a∧a < (n:Int))(i:Nat)(out:List Int)(ho:out.length=n):∀ m,(h:m < l.length)→at0 (bks n l i out) l[m]=((i + m:Nat):Int):=by
 induction l generalizing i out with
 | nil=>intro m h;simp at h
 | cons a l ih =>
  rw [List.nodup_cons] at hd
  have ha:=hr a (by simp)
  intro m h
  rw [bks,ip ha]
  cases m with
  | zero =>
   simp only [List.getElem_cons_zero,Nat.add_zero]
   obtain⟨j,rfl⟩:=Int.eq_ofNat_of_zero_le ha.1
   rw [bks_other _ _ _ _ _ hd.1,Int.toNat_natCast,at0_set_same _ _ (by omega)]
  | succ m =>
   rw [List.getElem_cons_succ,ih hd.2 (fun x hx=>hr x (by simp [hx])) (i + 1) _ (by simp [ho]) m (by simpa using h)]
   rw [show i + 1 + m=i + (m + 1) by omega]
theorem bk_at {l:List Int} (h:Pm l)(m:Nat)(hm:m < l.length):at0 (bk l) (at0 l (m:Int))=(m:Int):=by
 rw [at0_get l m hm]
 have:=bks_at l.length l h.nodup h.range 0 (List.replicate l.length 0) (by simp) m hm
 rw [Nat.zero_add] at this
 exact this
theorem pm_back {l:List Int} (h:Pm l)(j:Nat)(hj:j < l.length):∃ m:Nat,m < l.length∧at0 l (m:Int)=(j:Int)∧at0 (bk l) (j:Int)=(m:Int):=by
 obtain⟨m,hm,e⟩:=List.getElem_of_mem (h.all j hj)
 have e':at0 l (m:Int)=(j:Int):=by rw [at0_get l m hm];exact e
 exact⟨m,hm,e',by rw [← e',bk_at h m hm]⟩
theorem bk_prm {l:List Int} (h:Pm l)(x:List Int)(hx:x.length=l.length):prm (prm x (bk l)) l=x:=by
 apply at0_ext (by rw [prm_length,hx])
 intro m hm
 rw [prm_length] at hm
 have hr:=h.range (l[m]) (List.getElem_mem hm)
 rw [at0_prm _ _ _ hm,at0_get l m hm]
 obtain⟨j,hj⟩:=Int.eq_ofNat_of_zero_le hr.1
 have hjl:j < l.length:=by omega
 rw [hj,at0_prm _ _ _ (by rw [bk_length];exact hjl)]
 have:=bk_at h m hm
 rw [at0_get l m hm,hj] at this
 rw [this]
theorem ofs_sum (p s:List Int)(h:p.length=s.length):ofs p s=((List.range p.length).map fun j:Nat=>at0 p (j:Int) * at0 s (j:Int)).sum:=by
 induction p generalizing s with
 | nil=>simp [ofs]
 | cons a p ih =>
  cases s with
  | nil=>simp at h
  | cons t s =>
   rw [ofs,ih s (by simpa using h),List.length_cons,List.range_succ_eq_map,List.map_cons,List.map_map,List.sum_cons]
   congr 1
theorem sum_perm {a b:List Int} (h:a.Perm b):a.sum=b.sum:=by
 induction h with
 | nil=>rfl
 | cons x _ ih=>simp [ih]
 | swap x y l=>simp only [List.sum_cons];omega
 | trans _ _ ih1 ih2=>rw [ih1,ih2]
theorem ofs_prm {l:List Int} (h:Pm l)(p s:List Int)(hp:p.length=l.length)(hs:s.length=l.length):ofs (prm p l) (prm s l)=ofs p s:=by
 rw [ofs_sum _ _ (by rw [prm_length,prm_length]),ofs_sum _ _ (by omega),prm_length,hp]
 have e1:((List.range l.length).map fun j:Nat=>at0 (prm p l) (j:Int) * at0 (prm s l) (j:Int))=l.map fun a=>at0 p a * at0 s a:=by
  apply List.ext_getElem (by simp)
  intro j h1 h2
  rw [List.length_map] at h2
  simp only [List.getElem_map,List.getElem_range]
  rw [at0_prm _ _ _ h2,at0_prm _ _ _ h2,at0_get l j h2]
 rw [e1,sum_perm ((pm_perm h).map fun a=>at0 p a * at0 s a),List.map_map]
 rfl
theorem inb_prm {l:List Int} (h:Pm l)(d q:List Int)(hd:d.length=l.length)(hi:inb (prm d l) q=true):inb d (prm q (bk l))=true:=by
 obtain⟨hl,hq⟩:=(inb_iff _ _).1 hi
 rw [prm_length] at hl hq
 refine(inb_iff _ _).2 ⟨by rw [prm_length,bk_length,hd],fun j hj=>?_⟩
 obtain⟨m,hm,e1,e2⟩:=pm_back h j (by omega)
 have:=hq m hm
 rw [at0_prm _ _ _ hm,e1] at this
 rw [at0_prm _ _ _ (by rw [bk_length];omega),e2]
 exact this
theorem pmt_ofs {l:List Int} (h:Pm l)(s q:List Int)(hs:s.length=l.length)(hq:q.length=l.length):ofs q (prm s l)=ofs (prm q (bk l)) s:=by
 have:=ofs_prm h (prm q (bk l)) s (by rw [prm_length,bk_length]) hs
 rw [bk_prm h q hq] at this
 exact this
theorem perm_ok {d l:List Int} (h:(perm d l).2=0):chk d=0∧Pm l∧l.length=d.length∧chk (prm d l)=0∧(perm d l).1=prm d l:=by
 unfold perm at h ⊢
 split at h
 ·rename_i h1
  split at h
  ·rename_i h2
   rw [ip h1,ip h2]
   exact⟨h1,pm_of h2.2 h2.1,h2.1,chk_perm (prm_perm h2.2 h2.1) h1,rfl⟩
  ·simp at h
 ·rename_i h1;exact absurd h h1
def mx (a b:Int):Int:=if a < b then b else a
/-- Dims with 1 ahead, n in all. -/
def pad (n:Nat) (l:List Int):List Int:=List.replicate (n - l.length) 1 ++ l
/-- Do they go together, one by one? -/
def fitz:List Int→List Int→Bool
 | x :: a,y :: b=>(x == y || x == 1 || y == 1) && fitz a b
 | _,_=>true
def mxs:List Int→List Int→List Int
 | x :: a,y :: b=>mx x y :: mxs a b
 | _,_=>[]
def tw (p q:List Int):List Int×Int:=if fitz p q=true then(if chk (mxs p q)=0 then(mxs p q,0)else([],chk (mxs p q)))else([],8)
def rank2 (a b:List Int):Nat:=max a.length b.length
def two (a b:List Int):List Int×Int :=
 if chk a=0 then(if chk b=0 then tw (pad (rank2 a b) a) (pad (rank2 a b) b)else([],chk b))else([],chk a)
def fts (a b:List Int):Bool:=decide ((two a b).2=0) && decide ((two a b).1=b)
/-- The place that is spread to one. -/
def sat:List Int→List Int→List Int
 | x :: f,v :: q=>(if x=1 then 0 else v) :: sat f q
 | _,_=>[]
def src (a b:List Int) (n:Int):Int:=num a (sat a ((dig b n).drop (b.length - a.length)))
def srcs (a b:List Int):List Int:=if fts a b=true then(alls b).map fun p=>num a (sat a (p.drop (b.length - a.length)))else []
theorem pad_length (n:Nat)(l:List Int)(h:l.length≤n):(pad n l).length=n:=by simp [pad];omega
theorem pad_self (l:List Int):pad l.length l=l:=by simp [pad]
theorem mxs_length (a b:List Int)(h:a.length=b.length):(mxs a b).length=a.length:=by
 induction a generalizing b with
 | nil=>cases b <;> simp [mxs]
 | cons x a ih =>
  cases b with
  | nil=>simp at h
  | cons y b=>simp [mxs,ih b (by simpa using h)]
theorem fitz_drop (a b:List Int)(i:Nat)(h:fitz a b=true):fitz (a.drop i) (b.drop i)=true:=by
 induction i generalizing a b with
 | zero=>simpa using h
 | succ i ih =>
  cases a with
  | nil=>simp [fitz]
  | cons x a =>
   cases b with
   | nil=>simp [fitz]
   | cons y b =>
    simp only [fitz,Bool.and_eq_true] at h
    simpa using ih a b h.2
theorem pad_at (n:Nat)(l:List Int)(h:l.length≤n)(i:Nat)(hi:i < n) :
  (pad n l)[i]'(by rw [pad_length n l h];exact hi)=if h2:n - l.length≤i then l[i - (n - l.length)]'(by omega)else 1:=by
 unfold pad
 split
 ·rename_i h2
  rw [List.getElem_append_right (by simpa using h2)]
  simp
 ·rename_i h2
  rw [List.getElem_append_left (by simp;omega)]
  simp
/-- f is 1 or t, everywhere. -/
def sub:List Int→List Int→Bool
 | x :: f,y :: t=>(x == 1 || x == y) && sub f t
 | [],[]=>true
 | _,_=>false
theorem sub_iff (f t:List Int)(hl:f.length=t.length)(hf:∀ x ∈ f,1≤x)(ht:∀ x ∈ t,1≤x):sub f t=true ↔ fitz f t=true∧mxs f t=t:=by
 induction f generalizing t with
 | nil=>cases t <;> simp_all [sub,fitz,mxs]
 | cons x f ih =>
  cases t with
  | nil=>simp at hl
  | cons y t =>
   have h1:=hf x (by simp)
   have h2:=ht y (by simp)
   have:=ih t (by simpa using hl) (fun z hz=>hf z (by simp [hz])) (fun z hz=>ht z (by simp [hz]))
   simp only [sub,fitz,mxs,Bool.and_eq_true,Bool.or_eq_true,beq_iff_eq,List.cons.injEq,this]
   constructor
   ·rintro⟨h|h,h3,h4⟩
    ·exact⟨⟨.inl (.inr h),h3⟩,by unfold mx;split <;> omega,h4⟩
    ·exact⟨⟨.inl (.inl h),h3⟩,by unfold mx;split <;> omega,h4⟩
   ·rintro⟨⟨h,h3⟩,h5,h4⟩
    unfold mx at h5
    refine⟨?_,h3,h4⟩
    split at h5
    ·rcases h with(h|h)|h
     ·exact .inr h
     ·exact .inl h
     ·omega
    ·exact .inr h5
theorem pad_pos (n:Nat)(l:List Int)(h:∀ x ∈ l,1≤x):∀ x ∈ pad n l,1≤x:=by
 intro x hx
 unfold pad at hx
 rcases List.mem_append.1 hx with hx|hx
 ·have:=List.eq_of_mem_replicate hx;omega
 ·exact h x hx
/-- What 'fits' says. -/
theorem fts_iff (a b:List Int):fts a b=true ↔ chk a=0∧chk b=0∧a.length≤b.length∧sub (pad b.length a) b=true:=by
 unfold fts
 simp only [Bool.and_eq_true,decide_eq_true_eq]
 constructor
 ·rintro⟨h1,h2⟩
  unfold two at h1 h2
  split at h1
  ·rename_i ha
   rw [ip ha] at h2
   split at h1
   ·rename_i hb
    rw [ip hb] at h2
    unfold tw at h1 h2
    split at h1
    ·rename_i hf
     rw [ip hf] at h2
     split at h1
     ·rename_i hc
      rw [ip hc] at h2
      simp only at h2
      have hl:=mxs_length (pad (rank2 a b) a) (pad (rank2 a b) b) (by rw [pad_length,pad_length] <;> unfold rank2 <;> omega)
      rw [h2,pad_length _ _ (by unfold rank2;omega)] at hl
      have hle:a.length≤b.length:=by unfold rank2 at hl;omega
      rw [← hl,pad_self] at hf h2
      refine⟨ha,hb,hle,(sub_iff _ _ (pad_length _ _ hle) (pad_pos _ _ (chk_ok ha).2.1) (chk_ok hb).2.1).2 ⟨hf,h2⟩⟩
     ·rename_i hc;exact absurd h1 hc
    ·simp at h1
   ·rename_i hb;exact absurd h1 hb
  ·rename_i ha;exact absurd h1 ha
 ·rintro⟨ha,hb,hle,hs⟩
  obtain⟨s1,s2⟩:=(sub_iff _ _ (pad_length _ _ hle) (pad_pos _ _ (chk_ok ha).2.1) (chk_ok hb).2.1).1 hs
  have e:two a b=(b,0):=by
   unfold two
   have hr:rank2 a b=b.length:=by unfold rank2;omega
   rw [ip ha,ip hb,hr,pad_self]
   unfold tw
   rw [ip s1,s2,ip hb]
  rw [e];exact⟨rfl,rfl⟩
theorem sub_drop {f t:List Int} (h:sub f t=true)(i:Nat):sub (f.drop i) (t.drop i)=true:=by
 induction i generalizing f t with
 | zero=>simpa using h
 | succ i ih =>
  cases f with
  | nil=>cases t <;> simp_all [sub]
  | cons x f =>
   cases t with
   | nil=>simp [sub] at h
   | cons y t =>
    simp only [sub,Bool.and_eq_true] at h
    simpa using ih h.2
theorem pad_drop (n:Nat)(l:List Int):(pad n l).drop (n - l.length)=l:=by
 unfold pad
 rw [List.drop_append_of_le_length (by simp)]
 simp
theorem inb_sat (f t q:List Int)(hs:sub f t=true)(hf:∀ x ∈ f,1≤x)(hq:inb t q=true):inb f (sat f q)=true:=by
 induction f generalizing t q with
 | nil=>cases t <;> cases q <;> simp_all [sub,inb,sat]
 | cons x f ih =>
  cases t with
  | nil=>simp [sub] at hs
  | cons y t =>
   cases q with
   | nil=>simp [inb] at hq
   | cons v q =>
    have h1:=hf x (by simp)
    simp only [sub,Bool.and_eq_true,Bool.or_eq_true,beq_iff_eq] at hs
    simp only [inb,Bool.and_eq_true,decide_eq_true_eq] at hq
    simp only [inb,sat,Bool.and_eq_true,decide_eq_true_eq]
    refine⟨?_,ih t q hs.2 (fun z hz=>hf z (by simp [hz])) hq.2⟩
    split <;> omega
theorem inb_drop {d r:List Int} (h:inb d r=true)(i:Nat):inb (d.drop i) (r.drop i)=true:=by
 induction i generalizing d r with
 | zero=>simpa using h
 | succ i ih =>
  cases d with
  | nil=>cases r <;> simp_all [inb]
  | cons x d =>
   cases r with
   | nil=>simp [inb] at h
   | cons y r =>
    simp only [inb,Bool.and_eq_true] at h
    simpa using ih h.2
theorem src_in {a b:List Int} (h:fts a b=true) (n:Int):inb a (sat a ((dig b n).drop (b.length - a.length)))=true:=by
 obtain⟨h1,h2,h3,h4⟩:=(fts_iff a b).1 h
 have hs:=sub_drop h4 (b.length - a.length)
 rw [pad_drop] at hs
 exact inb_sat a _ _ hs (chk_ok h1).2.1 (inb_drop (inb_dig b (chk_ok h2).2.1 n) _)
theorem srcs_length (a b:List Int)(h:fts a b=true):((srcs a b).length:Int)=cnt b:=by
 unfold srcs
 rw [ip h,List.length_map,alls_length]
theorem srcs_get (a b:List Int)(h:fts a b=true)(n:Nat)(hn:n < (srcs a b).length):(srcs a b)[n]=src a b (n:Int):=by
 have e:srcs a b=(alls b).map fun p=>num a (sat a (p.drop (b.length - a.length))):=by unfold srcs;rw [ip h]
 simp only [e,List.getElem_map,alls_get]
 rfl
/-- The elements that a map of places picks. -/
def nums (d d':List Int) (f:List Int→List Int):List Int:=(alls d').map fun p=>num d (f p)
def rsp (d to_:List Int):List Int×List Int×Int :=
 if chk to_=0 then(if cnt to_=cnt d then(to_,(List.range (cnt d).toNat).map fun i:Nat=>(i:Int),0)else([],[],8))else([],[],chk to_)
def rpm (d axes:List Int):List Int×List Int×Int :=
 if(perm d axes).2=0 then(prm d axes,nums d (prm d axes) fun q=>prm q (bk axes),0)else([],[],(perm d axes).2)
def tkf (axis:Int) (marks p:List Int):List Int:=p.set axis.toNat (at0 marks (at0 p axis))
def rtk (d:List Int) (axis:Int) (marks:List Int):List Int×List Int×Int :=
 if(withd d axis marks.length).2=0 then((withd d axis marks.length).1,nums d (withd d axis marks.length).1 (tkf axis marks),0)else([],[],(withd d axis marks.length).2)
def rfl_ (d:List Int) (axis:Int):List Int×List Int×Int :=
 if axis < 0∨(d.length:Int)≤axis then([],[],10)else rtk d axis ((List.range (at0 d axis).toNat).map fun i:Nat=>at0 d axis - 1 - (i:Int))
/-- The marks of a slice; none where one is out of range. -/
def mrk (x start step:Int) (n:Nat):Option (List Int) :=
 if(List.range n).all (fun i:Nat=>decide (0≤start + (i:Int) * step) && decide (start + (i:Int) * step < x))=true then some ((List.range n).map fun i:Nat=>start + (i:Int) * step)else none
def rsl (d:List Int) (axis start count step:Int):List Int×List Int×Int :=
 if axis < 0∨(d.length:Int)≤axis then([],[],10)
 else if count < 1∨at0 d axis < count∨start < 0∨at0 d axis≤start∨(1 < count∧(step=0∨64 < step∨step < -64))then([],[],11)
 else match mrk (at0 d axis) start step count.toNat with
  | some m=>rtk d axis m
  | none=>([],[],11)
def rex (d to_:List Int):List Int×List Int×Int :=
 if chk to_=0 then(if fts d to_=true then(to_,srcs d to_,0)else([],[],8))else([],[],chk to_)
def vrs (o:Int) (d s to_:List Int):Int×List Int×List Int×Int :=
 if rgt o d s 64=true then(if chk to_=0 then(if cnt to_=cnt d then(if row (cls o d s 64)=true then(o,to_,stp to_,0)else(0,[],[],19))else(0,[],[],8))else(0,[],[],chk to_))else(0,[],[],1)
def vsl (o:Int) (d s:List Int) (a start count step:Int):Int×List Int×List Int×Int :=
 if rgt o d s 64=true then(if a < 0∨(d.length:Int)≤a then(0,[],[],10)
  else if start < 0∨at0 d a≤start∨count < 1∨at0 d a < count∨(1 < count∧(step=0∨at0 d a≤step∨step≤-(at0 d a)∨start + (count - 1) * step < 0∨at0 d a≤start + (count - 1) * step))then(0,[],[],11)
  else(if 0 < start then o + start * at0 s a else o,d.set a.toNat count,if count=1 then s.set a.toNat 0 else s.set a.toNat (at0 s a * step),0))else(0,[],[],1)
/-- Steps of a view that is spread. -/
def exs:List Int→List Int→List Int
 | x :: d,t :: s=>(if 1 < x then t else 0) :: exs d s
 | _,_=>[]
def vex (o:Int) (d s to_:List Int):Int×List Int×List Int×Int :=
 if rgt o d s 64=true then(if chk to_=0 then(if fts d to_=true then(o,to_,List.replicate (to_.length - d.length) 0 ++ exs d s,0)else(0,[],[],8))else(0,[],[],chk to_))else(0,[],[],1)
theorem exs_length (d s:List Int)(h:s.length=d.length):(exs d s).length=d.length:=by
 induction d generalizing s with
 | nil=>cases s <;> simp_all [exs]
 | cons x d ih =>
  cases s with
  | nil=>simp at h
  | cons t s=>simp [exs,ih s (by simpa using h)]
theorem exs_at (d s:List Int)(h:s.length=d.length)(i:Nat)(hi:i < d.length):at0 (exs d s) (i:Int)=if 1 < at0 d (i:Int)then at0 s (i:Int)else 0:=by
 induction d generalizing s i with
 | nil=>simp at hi
 | cons x d ih =>
  cases s with
  | nil=>simp at h
  | cons t s =>
   cases i with
   | zero=>simp [exs,at0]
   | succ i =>
    have:=ih s (by simpa using h) i (by simpa using hi)
    simpa [exs,at0] using this
/-- The steps, i of them set. -/
def est (n:Nat) (d s:List Int) (i:Nat):List Int:=List.replicate (n - d.length) 0 ++ ((exs d s).take i ++ List.replicate (d.length - i) 0)
theorem est_length (n:Nat)(d s:List Int)(h:s.length=d.length)(hn:d.length≤n)(i:Nat)(hi:i≤d.length):(est n d s i).length=n:=by
 simp [est,exs_length d s h];omega
theorem est_succ (n:Nat)(d s:List Int)(h:s.length=d.length)(i:Nat)(hi:i < d.length):est n d s (i + 1)=(est n d s i).set (n - d.length + i) (at0 (exs d s) (i:Int)):=by
 have hl:=exs_length d s h
 unfold est
 rw [List.set_append_right _ _ (by simp),List.length_replicate,show n - d.length + i - (n - d.length)=i by omega]
 rw [List.set_append_right _ _ (by rw [List.length_take];omega),List.length_take,Nat.min_eq_left (by omega),Nat.sub_self]
 rw [show d.length - i=(d.length - (i + 1)) + 1 by omega,List.replicate_succ,List.set_cons_zero]
 rw [List.take_succ_eq_append_getElem (by omega),at0_get _ _ (by omega),List.append_assoc,List.singleton_append]
theorem est_keep (n:Nat)(d s:List Int)(h:s.length=d.length)(i:Nat)(hi:i < d.length)(h1:¬ 1 < at0 d (i:Int)):est n d s (i + 1)=est n d s i:=by
 have hl:=exs_length d s h
 have he:=exs_at d s h i hi
 rw [iN h1,at0_get _ _ (by omega)] at he
 unfold est
 rw [List.take_succ_eq_append_getElem (by omega),he,List.append_assoc,List.singleton_append,← List.replicate_succ,show d.length - (i + 1) + 1=d.length - i by omega]
/-- A map of places under which a view's elements are elements of another one. -/
def Pk (o:Int) (d s:List Int) (o':Int) (d' s':List Int) (f:List Int→List Int):Prop:=∀ p,inb d' p=true→inb d (f p)=true∧o' + ofs p s'=o + ofs (f p) s
theorem pk_rgt {o o':Int} {d s d' s':List Int} {f:List Int→List Int} {r:Int} (h:rgt o d s r=true)(hc:chk d'=0)(hl:s'.length=d'.length)(hp:Pk o d s o' d' s' f):rgt o' d' s' r=true :=
 rgt_sub h hc hl (fun p hi=>⟨f p,hp p hi⟩)
theorem cls_at {o:Int} {d s:List Int} (h:rgt o d s 64=true)(p:List Int)(hp:inb d p=true):0≤num d p∧num d p < ((cls o d s 64).length:Int)∧at0 (cls o d s 64) (num d p)=o + ofs p s:=by
 have hv:=(rgt_ok h).1
 have h1:=(chk_ok hv.1).2.1
 obtain⟨a1,a2⟩:=num_lt d p h1 hp
 have hl:=cls_length o d s 64
 rw [ip h,(cnt_ok hv.1).1] at hl
 obtain⟨m,hm⟩:=Int.eq_ofNat_of_zero_le a1
 refine⟨a1,by omega,?_⟩
 rw [hm,at0_get _ _ (by omega),cls_get h,← hm,dig_num d p h1 hp]
theorem pk_cls {o o':Int} {d s d' s':List Int} {f:List Int→List Int} (h:rgt o d s 64=true)(hc:chk d'=0)(hl:s'.length=d'.length)(hp:Pk o d s o' d' s' f) :
  cls o' d' s' 64=(nums d d' f).map (fun a=>at0 (cls o d s 64) a):=by
 rw [cls_ok (pk_rgt h hc hl hp)]
 unfold nums
 rw [List.map_map]
 apply List.map_congr_left
 intro p hpm
 obtain⟨q1,q2⟩:=hp p ((mem_alls hc).1 hpm)
 simp only [Function.comp]
 rw [(cls_at h (f p) q1).2.2,q2]
theorem pk_nums {o o':Int} {d s d' s':List Int} {f:List Int→List Int} (h:rgt o d s 64=true)(hc:chk d'=0)(hp:Pk o d s o' d' s' f) :
  (nums d d' f).length≤64∧∀ a ∈ nums d d' f,0≤a∧a < ((cls o d s 64).length:Int):=by
 have:=alls_length d'
 have:=(cnt_ok hc).2.2
 refine⟨by unfold nums;rw [List.length_map];omega,fun a ha=>?_⟩
 unfold nums at ha
 rw [List.mem_map] at ha
 obtain⟨p,hpm,rfl⟩:=ha
 have:=cls_at h (f p) (hp p ((mem_alls hc).1 hpm)).1
 exact⟨this.1,this.2.1⟩
/-- What the law wants of a view of a view (offset, dims, steps, error) and what the reference tells (dims, elements, error). -/
def Agr (o:Int) (d s:List Int) (w:Int×List Int×List Int×Int) (r:List Int×List Int×Int):Prop :=
 (r.2.2=0→w.2.2.2=0∧w.2.1=r.1∧r.1.length≤6∧cls w.1 w.2.1 w.2.2.1 64=r.2.1.map (fun a=>at0 (cls o d s 64) a)∧r.2.1.length≤64∧∀ a ∈ r.2.1,0≤a∧a < ((cls o d s 64).length:Int)) ∧
 (r.2.2≠0→w=(0,[],[],r.2.2))
theorem agr_pk {o o':Int} {d s d' s':List Int} {f:List Int→List Int} (h:rgt o d s 64=true)(hc:chk d'=0)(hl:s'.length=d'.length)(hp:Pk o d s o' d' s' f):Agr o d s (o',d',s',0) (d',nums d d' f,0) :=
 ⟨fun _=>⟨rfl,rfl,(chk_ok hc).1,pk_cls h hc hl hp,(pk_nums h hc hp).1,(pk_nums h hc hp).2⟩,fun hh=>absurd rfl hh⟩
theorem agr_err (o:Int)(d s:List Int) (e:Int)(he:e≠0):Agr o d s (0,[],[],e) ([],[],e):=⟨fun hh=>absurd hh he,fun _=>rfl⟩
theorem agr_permute {o:Int} {d s:List Int} (h:rgt o d s 64=true)(l:List Int):Agr o d s (pmt o d s l) (rpm d l):=by
 unfold pmt rpm
 rw [ip h]
 by_cases h2:(perm d l).2=0
 ·rw [ip h2,ip h2]
  obtain⟨p1,p2,p3,p4,p5⟩:=perm_ok h2
  have hs:=(rgt_ok h).1.2.1
  refine agr_pk h p4 (by rw [prm_length,prm_length]) (fun p hp=>⟨inb_prm p2 d p p3.symm hp,?_⟩)
  rw [pmt_ofs p2 s p (by omega) (by rw [inb_length hp,prm_length])]
 ·rw [iN h2,iN h2]
  exact agr_err _ _ _ _ h2
theorem prod_set_le (d:List Int)(h:∀ x ∈ d,1≤x)(i:Nat)(hi:i < d.length) (c:Int)(h1:1≤c)(h2:c≤d[i]):prod (d.set i c)≤prod d∧∀ x ∈ d.set i c,1≤x:=by
 refine⟨?_,fun x hx=>?_⟩
 ·induction d generalizing i with
  | nil=>simp at hi
  | cons y d ih =>
   have hp:=prod_pos d (fun z hz=>h z (by simp [hz]))
   have hy:=h y (by simp)
   cases i with
   | zero=>simp only [List.set_cons_zero,prod];exact Int.mul_le_mul_of_nonneg_right (by simpa using h2) (by omega)
   | succ i =>
    have:=ih (fun z hz=>h z (by simp [hz])) i (by simpa using hi) (by simpa using h2)
    simp only [List.set_cons_succ,prod]
    exact Int.mul_le_mul_of_nonneg_left this (by omega)
 ·rcases List.mem_or_eq_of_mem_set hx with hx|rfl
  ·exact h x hx
  ·exact h1
theorem chk_set {d:List Int} (hc:chk d=0)(i:Nat)(hi:i < d.length) (c:Int)(h1:1≤c)(h2:c≤d[i]):chk (d.set i c)=0:=by
 obtain⟨a1,a2,a3⟩:=chk_ok hc
 obtain⟨b1,b2⟩:=prod_set_le d a2 i hi c h1 h2
 exact ok_chk (by simpa using a1) b2 (by omega)
theorem rtk_ok {d:List Int} (hc:chk d=0)(i:Nat)(hi:i < d.length)(marks:List Int)(h1:1≤marks.length)(h2:(marks.length:Int)≤d[i]):rtk d (i:Int) marks=(d.set i (marks.length:Int),nums d (d.set i (marks.length:Int)) (tkf (i:Int) marks),0):=by
 have hs:=chk_set hc i hi (marks.length:Int) (by omega) h2
 have e:withd d (i:Int) (marks.length:Int)=(d.set i (marks.length:Int),0):=by
  unfold withd
  rw [ip hc,iN (by omega),Int.toNat_natCast,ip hs]
 unfold rtk
 rw [e];rfl
theorem tkf_inb {d:List Int} (i:Nat)(hi:i < d.length)(marks:List Int)(hm:∀ m ∈ marks,0≤m∧m < at0 d (i:Int))(p:List Int)(hp:inb (d.set i (marks.length:Int)) p=true):inb d (tkf (i:Int) marks p)=true∧0≤at0 p (i:Int)∧at0 p (i:Int) < (marks.length:Int):=by
 obtain⟨hl,hpi⟩:=(inb_iff _ _).1 hp
 rw [List.length_set] at hl hpi
 have ha:=hpi i hi
 rw [at0_set_same _ _ hi] at ha
 refine⟨(inb_iff _ _).2 ⟨by unfold tkf;simp;omega,fun b hb=>?_⟩,ha⟩
 unfold tkf
 rw [Int.toNat_natCast]
 by_cases e:i=b
 ·subst e
  obtain⟨j,hj⟩:=Int.eq_ofNat_of_zero_le ha.1
  have hjl:j < marks.length:=by omega
  rw [at0_set_same _ _ (by omega),hj,at0_get _ _ hjl]
  exact hm _ (List.getElem_mem hjl)
 ·rw [at0_set_other _ _ _ e]
  have:=hpi b hb
  rw [at0_set_other _ _ _ e] at this
  exact this
theorem at0_map_range (n:Nat)(g:Nat→Int) (j:Int)(h0:0≤j)(h1:j < (n:Int)):at0 ((List.range n).map g) j=g j.toNat:=by
 obtain⟨m,rfl⟩:=Int.eq_ofNat_of_zero_le h0
 rw [at0_get _ _ (by simp;omega)]
 simp
theorem agr_flip {o:Int} {d s:List Int} (h:rgt o d s 64=true) (a:Int):Agr o d s (flp o d s a) (rfl_ d a):=by
 unfold flp rfl_
 rw [ip h]
 by_cases h0:a < 0∨(d.length:Int)≤a
 ·rw [ip h0,ip h0];exact agr_err _ _ _ _ (by decide)
 ·rw [iN h0,iN h0]
  obtain⟨i,rfl⟩:=Int.eq_ofNat_of_zero_le (show 0≤a by omega)
  have hv:=(rgt_ok h).1
  have hi:i < d.length:=by omega
  have hx:=(chk_ok hv.1).2.1 _ (List.getElem_mem hi)
  have ex:=at0_get d i hi
  obtain⟨n,hn⟩:=Int.eq_ofNat_of_zero_le (show 0≤at0 d (i:Int) by omega)
  have hml:((List.range (at0 d (i:Int)).toNat).map fun j:Nat=>at0 d (i:Int) - 1 - (j:Int)).length=n:=by simp;omega
  have hset:d.set i (n:Int)=d:=by rw [← hn,ex,List.set_getElem_self]
  have hmk:∀ m ∈ (List.range (at0 d (i:Int)).toNat).map fun j:Nat=>at0 d (i:Int) - 1 - (j:Int),0≤m∧m < at0 d (i:Int):=fun m hm=>by
   simp only [List.mem_map,List.mem_range] at hm
   obtain⟨j,hj,rfl⟩:=hm
   omega
  rw [rtk_ok hv.1 i hi _ (by omega) (by rw [hml];omega),hml,hset]
  have key:∀ p,inb d p=true→inb d (tkf (i:Int) ((List.range (at0 d (i:Int)).toNat).map fun j:Nat=>at0 d (i:Int) - 1 - (j:Int)) p)=true∧tkf (i:Int) ((List.range (at0 d (i:Int)).toNat).map fun j:Nat=>at0 d (i:Int) - 1 - (j:Int)) p=p.set i (at0 d (i:Int) - 1 - at0 p (i:Int)):=fun p hp=>by
   obtain⟨q1,q2,q3⟩:=tkf_inb i hi _ hmk p (by rw [hml,hset];exact hp)
   rw [hml] at q3
   refine⟨q1,?_⟩
   unfold tkf
   rw [Int.toNat_natCast,at0_map_range _ _ _ q2 (by omega),Int.toNat_of_nonneg q2]
  by_cases h1:1 < at0 d (i:Int)
  ·rw [ip h1,Int.toNat_natCast]
   refine agr_pk h hv.1 (by simpa using hv.2.1) (fun p hp=>⟨(key p hp).1,?_⟩)
   rw [(key p hp).2]
   exact flp_ofs o d s p i hi hv.2.1 hp
  ·rw [iN h1]
   refine agr_pk h hv.1 hv.2.1 (fun p hp=>⟨(key p hp).1,?_⟩)
   rw [(key p hp).2]
   have hpl:=inb_length hp
   have hg:=inb_get hp i hi (by omega)
   have ep:=at0_get p i (by omega)
   rw [show at0 d (i:Int) - 1 - at0 p (i:Int)=p[i] by omega,List.set_getElem_self]
theorem mrk_eq (x start step:Int)(n:Nat):mrk x start step n=if ∀ i:Nat,i < n→0≤start + (i:Int) * step∧start + (i:Int) * step < x then some ((List.range n).map fun i:Nat=>start + (i:Int) * step)else none:=by
 unfold mrk
 by_cases h:∀ i:Nat,i < n→0≤start + (i:Int) * step∧start + (i:Int) * step < x
 ·rw [ip h,ip]
  rw [List.all_eq_true]
  intro i hi
  rw [List.mem_range] at hi
  simpa using h i hi
 ·rw [iN h,iN]
  intro hh
  rw [List.all_eq_true] at hh
  refine h (fun i hi=>?_)
  have:=hh i (by rw [List.mem_range];exact hi)
  simpa using this
/-- All marks are in range just where the last one is. -/
theorem marks_last {x start step:Int} {n:Nat} (hn:1≤n)(h0:0≤start)(h1:start < x):(∀ i:Nat,i < n→0≤start + (i:Int) * step∧start + (i:Int) * step < x) ↔ (0≤start + ((n:Int) - 1) * step∧start + ((n:Int) - 1) * step < x):=by
 constructor
 ·intro h
  have:=h (n - 1) (by omega)
  rw [show (((n - 1:Nat):Int))=(n:Int) - 1 by omega] at this
  exact this
 ·rintro⟨l0,l1⟩ i hi
  rcases Int.lt_or_le step 0 with hs|hs
  ·have e1:((n:Int) - 1) * step≤(i:Int) * step:=Int.mul_le_mul_of_nonpos_right (by omega) (by omega)
   have e2:(i:Int) * step≤0:=Int.mul_nonpos_of_nonneg_of_nonpos (by omega) (by omega)
   omega
  ·have e1:(i:Int) * step≤((n:Int) - 1) * step:=Int.mul_le_mul_of_nonneg_right (by omega) hs
   have e2:0≤(i:Int) * step:=Int.mul_nonneg (by omega) hs
   omega
theorem agr_slice {o:Int} {d s:List Int} (h:rgt o d s 64=true) (a start count step:Int):Agr o d s (vsl o d s a start count step) (rsl d a start count step):=by
 unfold vsl rsl
 rw [ip h]
 by_cases h0:a < 0∨(d.length:Int)≤a
 ·rw [ip h0,ip h0];exact agr_err _ _ _ _ (by decide)
 ·rw [iN h0,iN h0]
  obtain⟨i,rfl⟩:=Int.eq_ofNat_of_zero_le (show 0≤a by omega)
  have hv:=(rgt_ok h).1
  have hi:i < d.length:=by omega
  have hx:=(chk_ok hv.1).2.1 _ (List.getElem_mem hi)
  have hx2:=ok_le hv.1 _ (List.getElem_mem hi)
  have ex:=at0_get d i hi
  rw [← ex] at hx hx2
  by_cases c:start < 0∨at0 d (i:Int)≤start∨count < 1∨at0 d (i:Int) < count
  ·rw [ip (by omega),ip (by omega)];exact agr_err _ _ _ _ (by decide)
  ·obtain⟨n,rfl⟩:=Int.eq_ofNat_of_zero_le (show 0≤count by omega)
   rw [Int.toNat_natCast,Int.toNat_natCast]
   have hml:=marks_last (x:=at0 d (i:Int)) (start:=start) (step:=step) (n:=n) (by omega) (by omega) (by omega)
   by_cases m:∀ j:Nat,j < n→0≤start + (j:Int) * step∧start + (j:Int) * step < at0 d (i:Int)
   ·have hl:=hml.1 m
    have hb:1 < (n:Int)→-(at0 d (i:Int)) < step∧step < at0 d (i:Int):=fun hn=>by
     have:=m 1 (by omega)
     simp at this
     omega
    by_cases hz:1 < (n:Int)∧step=0
    ·rw [ip (.inr (.inr (.inr (.inr ⟨hz.1,.inl hz.2⟩)))),ip (.inr (.inr (.inr (.inr ⟨hz.1,.inl hz.2⟩))))];exact agr_err _ _ _ _ (by decide)
    ·have hA:¬ (start < 0∨at0 d (i:Int)≤start∨(n:Int) < 1∨at0 d (i:Int) < (n:Int)∨(1 < (n:Int)∧(step=0∨at0 d (i:Int)≤step∨step≤-(at0 d (i:Int))∨start + ((n:Int) - 1) * step < 0∨at0 d (i:Int)≤start + ((n:Int) - 1) * step))):=by omega
     have hB:¬ ((n:Int) < 1∨at0 d (i:Int) < (n:Int)∨start < 0∨at0 d (i:Int)≤start∨(1 < (n:Int)∧(step=0∨64 < step∨step < -64))):=by omega
     rw [iN hA,iN hB,mrk_eq,ip m]
     simp only
     have hmk:∀ q ∈ (List.range n).map fun j:Nat=>start + (j:Int) * step,0≤q∧q < at0 d (i:Int):=fun q hq=>by
      simp only [List.mem_map,List.mem_range] at hq
      obtain⟨j,hj,rfl⟩:=hq
      exact m j hj
     have hlen:((List.range n).map fun j:Nat=>start + (j:Int) * step).length=n:=by simp
     rw [rtk_ok hv.1 i hi _ (by omega) (by rw [hlen,← ex];omega),hlen]
     refine agr_pk (s':=if(n:Int)=1 then s.set i 0 else s.set i (at0 s (i:Int) * step)) h (chk_set hv.1 i hi (n:Int) (by omega) (by rw [← ex];omega)) (by split <;> simp <;> exact hv.2.1) (fun p hp=>?_)
     obtain⟨q1,q2,q3⟩:=tkf_inb i hi _ hmk p (by rw [hlen];exact hp)
     rw [hlen] at q3
     refine⟨q1,?_⟩
     have hpl:=inb_length hp
     rw [List.length_set] at hpl
     have hf:tkf (i:Int) ((List.range n).map fun j:Nat=>start + (j:Int) * step) p=p.set i (start + at0 p (i:Int) * step):=by
      unfold tkf
      rw [Int.toNat_natCast,at0_map_range _ _ _ q2 (by omega),Int.toNat_of_nonneg q2]
     rw [hf]
     have e2:=ofs_set p s i (by omega) (by rw [hv.2.1];omega) (start + at0 p (i:Int) * step) s[i]
     rw [List.set_getElem_self] at e2
     have es:=at0_get s i (by rw [hv.2.1];omega)
     have ep:=at0_get p i (by omega)
     rw [← es,← ep] at e2
     have e3:(start + at0 p (i:Int) * step) * at0 s (i:Int)=start * at0 s (i:Int) + at0 p (i:Int) * (at0 s (i:Int) * step):=by
      rw [Int.add_mul,Int.mul_assoc,Int.mul_comm step]
     have eo:(if 0 < start then o + start * at0 s (i:Int)else o)=o + start * at0 s (i:Int):=by
      split
      ·rfl
      ·rw [show start=0 by omega,Int.zero_mul,Int.add_zero]
     rw [eo,e2,e3]
     by_cases hn1:(n:Int)=1
     ·rw [ip hn1]
      have e1:=ofs_set p s i (by omega) (by rw [hv.2.1];omega) p[i] 0
      rw [List.set_getElem_self,← ep,← es] at e1
      have hp0:at0 p (i:Int)=0:=by omega
      rw [e1,hp0]
      simp only [Int.zero_mul,Int.add_zero,Int.sub_zero]
      omega
     ·rw [iN hn1]
      have e1:=ofs_set p s i (by omega) (by rw [hv.2.1];omega) p[i] (at0 s (i:Int) * step)
      rw [List.set_getElem_self,← ep,← es] at e1
      rw [e1]
      omega
   ·have hl:¬ (0≤start + ((n:Int) - 1) * step∧start + ((n:Int) - 1) * step < at0 d (i:Int)):=fun hh=>m (hml.2 hh)
    have hn1:1 < (n:Int):=by
     apply Decidable.byContradiction
     intro hc
     have:(n:Int) - 1=0:=by omega
     rw [this,Int.zero_mul,Int.add_zero] at hl
     omega
    rw [ip (by omega)]
    by_cases hz:step=0∨64 < step∨step < -64
    ·rw [ip (by omega)];exact agr_err _ _ _ _ (by decide)
    ·rw [iN (by omega),mrk_eq,iN m];exact agr_err _ _ _ _ (by decide)
theorem ofs_pad (k:Nat)(p t:List Int):ofs p (List.replicate k 0 ++ t)=ofs (p.drop k) t:=by
 induction k generalizing p with
 | zero=>simp
 | succ k ih =>
  cases p with
  | nil=>simp [ofs]
  | cons a p=>rw [List.replicate_succ,List.cons_append,ofs,Int.mul_zero,Int.zero_add,ih,List.drop_succ_cons]
theorem ofs_sat (d s q:List Int)(h:∀ x ∈ d,1≤x)(hl:s.length=d.length)(hq:q.length=d.length):ofs q (exs d s)=ofs (sat d q) s:=by
 induction d generalizing s q with
 | nil=>cases q <;> simp_all [sat,ofs]
 | cons x d ih =>
  cases s with
  | nil=>simp at hl
  | cons t s =>
   cases q with
   | nil=>simp at hq
   | cons v q =>
    have hx:=h x (by simp)
    simp only [exs,sat,ofs]
    rw [ih s q (fun y hy=>h y (by simp [hy])) (by simpa using hl) (by simpa using hq)]
    by_cases h1:x=1
    ·rw [iN (by omega),ip h1];simp
    ·rw [ip (by omega),iN h1]
theorem agr_expand {o:Int} {d s:List Int} (h:rgt o d s 64=true)(to_:List Int):Agr o d s (vex o d s to_) (rex d to_):=by
 unfold vex rex
 rw [ip h]
 by_cases h1:chk to_=0
 ·rw [ip h1,ip h1]
  by_cases h2:fts d to_=true
  ·rw [ip h2,ip h2]
   obtain⟨f1,f2,f3,f4⟩:=(fts_iff d to_).1 h2
   have hs:=(rgt_ok h).1.2.1
   have e:srcs d to_=nums d to_ fun p=>sat d (p.drop (to_.length - d.length)):=by unfold srcs nums;rw [ip h2]
   rw [e]
   have hd:=(chk_ok f1).2.1
   refine agr_pk h h1 (by simp [exs_length d s hs];omega) (fun p hp=>?_)
   have hpl:=inb_length hp
   have hsub:=sub_drop f4 (to_.length - d.length)
   rw [pad_drop] at hsub
   refine⟨inb_sat d _ _ hsub hd (inb_dropn _ _ hp _),?_⟩
   rw [ofs_pad,ofs_sat d s _ hd hs (by rw [List.length_drop];omega)]
  ·rw [iN h2,iN h2];exact agr_err _ _ _ _ (by decide)
 ·rw [iN h1,iN h1];exact agr_err _ _ _ _ h1
theorem ofs_stp (d p:List Int)(hp:p.length=d.length):ofs p (stp d)=num d p:=by
 induction d generalizing p with
 | nil=>cases p <;> simp_all [ofs,num]
 | cons x d ih =>
  cases p with
  | nil=>simp at hp
  | cons a p=>simp only [stp,ofs,num];rw [ih p (by simpa using hp)]
theorem agr_reshape {o:Int} {d s:List Int} (h:rgt o d s 64=true)(to_:List Int):Agr o d s (vrs o d s to_) (if(rsp d to_).2.2=0∧¬ row (cls o d s 64)=true then((rsp d to_).1,(rsp d to_).2.1,19)else rsp d to_):=by
 unfold vrs rsp
 rw [ip h]
 by_cases h1:chk to_=0
 ·rw [ip h1,ip h1]
  by_cases h2:cnt to_=cnt d
  ·rw [ip h2,ip h2]
   by_cases h3:row (cls o d s 64)=true
   ·rw [ip h3,iN (fun hh=>hh.2 h3)]
    have hv:=(rgt_ok h).1
    have hd:=(chk_ok hv.1).2.1
    have ht:=(chk_ok h1).2.1
    have c1:=cnt_ok h1
    have c2:=cnt_ok hv.1
    rw [← rws_row h,rws_iff d s hd hv.2.1] at h3
    have e:((List.range (cnt d).toNat).map fun i:Nat=>(i:Int))=nums d to_ fun p=>dig d (num to_ p):=by
     unfold nums
     rw [alls_ok h1]
     unfold pre
     rw [List.map_map]
     have:(prod to_).toNat=(cnt d).toNat:=by omega
     rw [this]
     apply List.map_congr_left
     intro i hi
     rw [List.mem_range] at hi
     simp only [Function.comp]
     rw [num_dig_lt to_ ht _ (by omega) (by omega),num_dig_lt d hd _ (by omega) (by omega)]
    rw [e]
    refine agr_pk h h1 (stp_length to_) (fun p hp=>⟨inb_dig d hd _,?_⟩)
    obtain⟨n1,n2⟩:=num_lt to_ p ht hp
    rw [ofs_stp to_ p (inb_length hp),h3 _ n1 (by omega)]
   ·rw [iN h3,ip ⟨rfl,h3⟩]
    exact⟨fun hh=>absurd hh (by simp),fun _=>rfl⟩
  ·rw [iN h2,iN h2,iN (fun hh=>absurd hh.1 (by simp))];exact agr_err _ _ _ _ (by decide)
 ·rw [iN h1,iN h1,iN (fun hh=>h1 hh.1)];exact agr_err _ _ _ _ h1
/-- What is seen, by the primitive. -/
def sen (o:Int) (d s:List Int) (op n a b c:Int) (l:List Int):Int×List Int×List Int×Int :=
 if op=33 then vrs o d s l else if op=34 then pmt o d s l else if op=35 then vsl o d s n a b c else if op=36 then vex o d s l else flp o d s n
def ses (d:List Int) (op n a b c:Int) (l:List Int):List Int×List Int×Int :=
 if op=33 then rsp d l else if op=34 then rpm d l else if op=35 then rsl d n a b c else if op=36 then rex d l else rfl_ d n
theorem agr_sen {o:Int} {d s:List Int} (h:rgt o d s 64=true) (op n a b c:Int)(l:List Int)(hr:op=33→row (cls o d s 64)=true):Agr o d s (sen o d s op n a b c l) (ses d op n a b c l):=by
 unfold sen ses
 by_cases h1:op=33
 ·rw [ip h1,ip h1]
  have:=agr_reshape h l
  rwa [iN (fun hh=>hh.2 (hr h1))] at this
 ·rw [iN h1,iN h1]
  by_cases h2:op=34
  ·rw [ip h2,ip h2];exact agr_permute h l
  ·rw [iN h2,iN h2]
   by_cases h3:op=35
   ·rw [ip h3,ip h3];exact agr_slice h n a b c
   ·rw [iN h3,iN h3]
    by_cases h4:op=36
    ·rw [ip h4,ip h4];exact agr_expand h l
    ·rw [iN h4,iN h4];exact agr_flip h n
theorem rtk_right (d:List Int) (n:Int)(l:List Int):((rtk d n l).2.2=0→chk (rtk d n l).1=0)∧((rtk d n l).2.2≠0→(rtk d n l).1=[]):=by
 unfold rtk
 by_cases h:(withd d n (l.length:Int)).2=0
 ·obtain⟨w1,w2,w3,w4,w5⟩:=withd_o29 h
  rw [ip h,w5]
  exact⟨fun _=>w4,fun hh=>absurd rfl hh⟩
 ·rw [iN h]
  exact⟨fun hh=>absurd hh h,fun _=>rfl⟩
theorem ses_right (d:List Int) (op n a b c:Int)(l:List Int):((ses d op n a b c l).2.2=0→chk (ses d op n a b c l).1=0)∧((ses d op n a b c l).2.2≠0→(ses d op n a b c l).1=[]):=by
 unfold ses
 split
 ·unfold rsp
  by_cases h:chk l=0
  ·rw [ip h];split
   ·exact⟨fun _=>h,fun hh=>absurd rfl hh⟩
   ·exact⟨fun hh=>absurd hh (by decide),fun _=>rfl⟩
  ·rw [iN h];exact⟨fun hh=>absurd hh h,fun _=>rfl⟩
 ·split
  ·unfold rpm
   by_cases h:(perm d l).2=0
   ·rw [ip h];exact⟨fun _=>(perm_ok h).2.2.2.1,fun hh=>absurd rfl hh⟩
   ·rw [iN h];exact⟨fun hh=>absurd hh h,fun _=>rfl⟩
  ·split
   ·unfold rsl
    split
    ·exact⟨fun hh=>absurd hh (by decide),fun _=>rfl⟩
    ·split
     ·exact⟨fun hh=>absurd hh (by decide),fun _=>rfl⟩
     ·split
      ·exact rtk_right _ _ _
      ·exact⟨fun hh=>absurd hh (by decide),fun _=>rfl⟩
   ·split
    ·unfold rex
     by_cases h:chk l=0
     ·rw [ip h];split
      ·exact⟨fun _=>h,fun hh=>absurd rfl hh⟩
      ·exact⟨fun hh=>absurd hh (by decide),fun _=>rfl⟩
     ·rw [iN h];exact⟨fun hh=>absurd hh h,fun _=>rfl⟩
    ·unfold rfl_
     split
     ·exact⟨fun hh=>absurd hh (by decide),fun _=>rfl⟩
     ·exact rtk_right _ _ _
theorem sen_whole {d:List Int} (h:chk d=0) (op n a b c:Int)(l:List Int):(sen 0 d (stp d) op n a b c l).2.1=(ses d op n a b c l).1∧(sen 0 d (stp d) op n a b c l).2.2.2=(ses d op n a b c l).2.2:=by
 have hg:=agr_sen (whole_rgt h) op n a b c l (fun _=>whole_row h)
 by_cases e:(ses d op n a b c l).2.2=0
 ·obtain⟨a1,a2,_⟩:=hg.1 e
  exact⟨a2,by rw [a1,e]⟩
 ·rw [hg.2 e]
  exact⟨((ses_right d op n a b c l).2 e).symm,rfl⟩
/-- The first thing that is wrong with dims. -/
def fchk:List (List Int)→Int
 | []=>0
 | d :: l=>if chk d=0 then fchk l else chk d
theorem fchk_all {l:List (List Int)} (h:fchk l=0):∀ d ∈ l,chk d=0:=by
 induction l with
 | nil=>simp
 | cons d l ih =>
  unfold fchk at h
  split at h
  ·rename_i h1
   intro x hx
   rcases List.mem_cons.1 hx with rfl|hx
   ·exact h1
   ·exact ih h x hx
  ·exact absurd h (by assumption)
/-- Are they alike but at the axis, from the i-th one on? -/
def jok (n:Int) (a b:List Int) (i:Nat):Bool:=(List.range (a.length - i)).all fun j=>decide (((i + j:Nat):Int)=n) || decide (at0 a ((i + j:Nat):Int)=at0 b ((i + j:Nat):Int))
theorem jok_end (n:Int)(a b:List Int):jok n a b a.length=true:=by unfold jok;simp
theorem jok_step (n:Int)(a b:List Int)(i:Nat)(h:i < a.length):jok n a b i=((decide ((i:Int)=n) || decide (at0 a (i:Int)=at0 b (i:Int))) && jok n a b (i + 1)):=by
 unfold jok
 rw [show a.length - i=(a.length - (i + 1)) + 1 by omega,List.range_succ_eq_map,List.all_cons,List.all_map,Nat.add_zero]
 congr 2
 funext j
 simp only [Function.comp,Nat.succ_eq_add_one]
 rw [show i + (j + 1)=i + 1 + j by omega]
def joind (a b:List Int) (n:Int):List Int×Int :=
 if n < 0∨(a.length:Int)≤n then([],10)else if a.length=b.length then(if jok n a b 0=true then withd a n (at0 a n + at0 b n)else([],8))else([],8)
def mvd (op n a b c:Int) (l:List Int) (dims:List (List Int)):List Int×Int :=
 if 33≤op∧op≤40 then(if(dims.length:Int)=(if op=40 then 2 else 1)then(if fchk dims=0 then
  (if op=38 then takd (dims.getD 0 []) n l else if op=39 then putd (dims.getD 0 []) n a l else if op=40 then joind (dims.getD 0 []) (dims.getD 1 []) n else((ses (dims.getD 0 []) op n a b c l).1,(ses (dims.getD 0 []) op n a b c l).2.2))
  else([],fchk dims))else([],1))else([],14)
/-- Dims that may be, or none, and what is wrong. -/
def Rgt (r:List Int×Int):Prop:=(r.2=0→chk r.1=0)∧(r.2≠0→r.1=[])
theorem rgt_err (e:Int)(h:e≠0):Rgt ([],e):=⟨fun hh=>absurd hh h,fun _=>rfl⟩
theorem rgt_withd (d:List Int) (n a:Int):Rgt (withd d n a):=by
 by_cases h:(withd d n a).2=0
 ·obtain⟨w1,w2,w3,w4,w5⟩:=withd_o29 h
  rw [w5];exact⟨fun _=>w4,fun hh=>absurd rfl hh⟩
 ·refine⟨fun hh=>absurd hh h,fun _=>?_⟩
  unfold withd at h ⊢
  split
  ·rename_i h1
   rw [ip h1] at h
   split
   ·rfl
   ·rename_i h2
    rw [iN h2] at h
    split
    ·rename_i h3;rw [ip h3] at h;exact absurd rfl h
    ·rfl
  ·rfl
theorem rgt_putd (d:List Int) (n a:Int)(l:List Int):Rgt (putd d n a l):=by
 refine⟨fun h=>?_,fun h=>putd_err h⟩
 obtain⟨w1,w2,w3,w4,w5,w6,w7⟩:=putd_ok h
 rw [w7];exact w4
theorem rgt_takd (d:List Int) (n:Int)(l:List Int):Rgt (takd d n l):=by
 unfold takd
 split
 ·exact rgt_err _ (by decide)
 ·split
  ·exact rgt_withd _ _ _
  ·exact rgt_err _ (by decide)
theorem rgt_joind (a b:List Int) (n:Int):Rgt (joind a b n):=by
 unfold joind
 split
 ·exact rgt_err _ (by decide)
 ·split
  ·split
   ·exact rgt_withd _ _ _
   ·exact rgt_err _ (by decide)
  ·exact rgt_err _ (by decide)
theorem rgt_mvd (op n a b c:Int)(l:List Int)(dims:List (List Int)):Rgt (mvd op n a b c l dims):=by
 unfold mvd
 by_cases h1:33≤op∧op≤40
 ·rw [ip h1]
  by_cases h2:(dims.length:Int)=(if op=40 then 2 else 1)
  ·rw [ip h2]
   by_cases h3:fchk dims=0
   ·rw [ip h3]
    by_cases h4:op=38
    ·rw [ip h4];exact rgt_takd _ _ _
    ·rw [iN h4]
     by_cases h5:op=39
     ·rw [ip h5];exact rgt_putd _ _ _ _
     ·rw [iN h5]
      by_cases h6:op=40
      ·rw [ip h6];exact rgt_joind _ _ _
      ·rw [iN h6];exact ses_right _ _ _ _ _ _ _
   ·rw [iN h3];exact rgt_err _ h3
  ·rw [iN h2];exact rgt_err _ (by decide)
 ·rw [iN h1];exact rgt_err _ (by decide)
def axes (op n:Int) (l:List Int):List Int:=if op=27∨op=28 then l else [n]
def putv (d:List Int) (n a:Int) (l:List Int):List Int×List Int×List Int×Int :=
 if(putd d n a l).2=0 then((putd d n a l).1,[],(alls d).map (fun p=>plr (putd d n a l).1 (mvp n l p)),0)else([],[],[],(putd d n a l).2)
def jnw (a:List Int) (n:Int) (p:List Int):Int:=if at0 p n < at0 a n then 0 else 1
def jnf (a b:List Int) (n:Int) (p:List Int):Int:=if at0 p n < at0 a n then plr a p else plr b (p.set n.toNat (at0 p n - at0 a n))
def joinv (a b:List Int) (n:Int):List Int×List Int×List Int×Int :=
 if(joind a b n).2=0 then((joind a b n).1,(alls (joind a b n).1).map (jnw a n),(alls (joind a b n).1).map (jnf a b n),0)else([],[],[],(joind a b n).2)
def sgl (d:List Int) (op n a b c:Int) (l:List Int):List Int×List Int×Int :=
 if op=38 then(if n < 0∨(d.length:Int)≤n then([],[],10)else if inr l (at0 d n)=true then rtk d n l else([],[],11))else ses d op n a b c l
def ofv (op n a b c:Int) (l:List Int) (dims:List (List Int)):List Int×List Int×List Int×Int :=
 if 33≤op∧op≤40 then(if(dims.length:Int)=(if op=40 then 2 else 1)then(if fchk dims=0 then
  (if op=39 then putv (dims.getD 0 []) n a l else if op=40 then joinv (dims.getD 0 []) (dims.getD 1 []) n else
   if(sgl (dims.getD 0 []) op n a b c l).2.2=0 then((sgl (dims.getD 0 []) op n a b c l).1,List.replicate (sgl (dims.getD 0 []) op n a b c l).2.1.length 0,(sgl (dims.getD 0 []) op n a b c l).2.1,0)else([],[],[],(sgl (dims.getD 0 []) op n a b c l).2.2))
  else([],[],[],fchk dims))else([],[],[],1))else([],[],[],14)
theorem joind_ok {a b:List Int} {n:Int} (h:(joind a b n).2=0):0≤n∧n < (a.length:Int)∧a.length=b.length∧jok n a b 0=true∧chk a=0∧chk (a.set n.toNat (at0 a n + at0 b n))=0∧joind a b n=(a.set n.toNat (at0 a n + at0 b n),0):=by
 unfold joind at h ⊢
 by_cases h1:n < 0∨(a.length:Int)≤n
 ·rw [ip h1] at h;exact absurd h (by decide)
 ·rw [iN h1] at h ⊢
  by_cases h2:a.length=b.length
  ·rw [ip h2] at h ⊢
   by_cases h3:jok n a b 0=true
   ·rw [ip h3] at h ⊢
    obtain⟨w1,w2,w3,w4,w5⟩:=withd_o29 h
    exact⟨w2,w3,h2,h3,w1,w4,w5⟩
   ·rw [iN h3] at h;exact absurd h (by decide)
  ·rw [iN h2] at h;exact absurd h (by decide)
theorem sgl_tak (d:List Int) (n a b c:Int)(l:List Int):(sgl d 38 n a b c l).1=(takd d n l).1∧(sgl d 38 n a b c l).2.2=(takd d n l).2:=by
 unfold sgl takd
 rw [ip rfl]
 by_cases h1:n < 0∨(d.length:Int)≤n
 ·rw [ip h1,ip h1];exact⟨rfl,rfl⟩
 ·rw [iN h1,iN h1]
  by_cases h2:inr l (at0 d n)=true
  ·rw [ip h2,ip h2]
   unfold rtk
   by_cases h3:(withd d n (l.length:Int)).2=0
   ·rw [ip h3];exact⟨rfl,h3.symm⟩
   ·rw [iN h3];exact⟨((rgt_withd d n (l.length:Int)).2 h3).symm,rfl⟩
  ·rw [iN h2,iN h2];exact⟨rfl,rfl⟩
theorem ofv_mvd (op n a b c:Int)(l:List Int)(dims:List (List Int)):(ofv op n a b c l dims).1=(mvd op n a b c l dims).1∧(ofv op n a b c l dims).2.2.2=(mvd op n a b c l dims).2:=by
 unfold ofv mvd
 by_cases h1:33≤op∧op≤40
 ·rw [ip h1,ip h1]
  by_cases h2:(dims.length:Int)=(if op=40 then 2 else 1)
  ·rw [ip h2,ip h2]
   by_cases h3:fchk dims=0
   ·rw [ip h3,ip h3]
    by_cases h5:op=39
    ·rw [ip h5,iN (by omega),ip h5]
     unfold putv
     by_cases g:(putd (dims.getD 0 []) n a l).2=0
     ·rw [ip g];exact⟨rfl,g.symm⟩
     ·rw [iN g];exact⟨((rgt_putd _ n a l).2 g).symm,rfl⟩
    ·rw [iN h5]
     by_cases h6:op=40
     ·rw [ip h6,iN (by omega),iN h5,ip h6]
      unfold joinv
      by_cases g:(joind (dims.getD 0 []) (dims.getD 1 []) n).2=0
      ·rw [ip g];exact⟨rfl,g.symm⟩
      ·rw [iN g];exact⟨((rgt_joind _ _ n).2 g).symm,rfl⟩
     ·rw [iN h6]
      have e:(sgl (dims.getD 0 []) op n a b c l).1=(if op=38 then takd (dims.getD 0 []) n l else if op=39 then putd (dims.getD 0 []) n a l else if op=40 then joind (dims.getD 0 []) (dims.getD 1 []) n else((ses (dims.getD 0 []) op n a b c l).1,(ses (dims.getD 0 []) op n a b c l).2.2)).1∧(sgl (dims.getD 0 []) op n a b c l).2.2=(if op=38 then takd (dims.getD 0 []) n l else if op=39 then putd (dims.getD 0 []) n a l else if op=40 then joind (dims.getD 0 []) (dims.getD 1 []) n else((ses (dims.getD 0 []) op n a b c l).1,(ses (dims.getD 0 []) op n a b c l).2.2)).2:=by
       by_cases h4:op=38
       ·rw [ip h4];subst h4;exact sgl_tak _ _ _ _ _ _
       ·rw [iN h4,iN h5,iN h6];unfold sgl;rw [iN h4];exact⟨rfl,rfl⟩
      have hr:=rgt_mvd op n a b c l dims
      unfold mvd at hr
      rw [ip h1,ip h2,ip h3] at hr
      by_cases g:(sgl (dims.getD 0 []) op n a b c l).2.2=0
      ·rw [ip g];exact⟨e.1,by rw [← e.2,g]⟩
      ·rw [iN g];exact⟨(hr.2 (by rw [← e.2];exact g)).symm,e.2⟩
   ·rw [iN h3,iN h3];exact⟨rfl,rfl⟩
  ·rw [iN h2,iN h2];exact⟨rfl,rfl⟩
 ·rw [iN h1,iN h1];exact⟨rfl,rfl⟩
theorem nums_at {d d':List Int} {f:List Int→List Int} (i:Int)(h0:0≤i)(h1:i < cnt d'):at0 (nums d d' f) i=num d (f (dig d' i)):=by
 obtain⟨j,rfl⟩:=Int.eq_ofNat_of_zero_le h0
 have hl:=alls_length d'
 rw [at0_get _ _ (by unfold nums;rw [List.length_map];omega)]
 unfold nums
 rw [List.getElem_map,alls_get]
theorem nums_length (d d':List Int)(f:List Int→List Int):((nums d d' f).length:Int)=cnt d':=by unfold nums;rw [List.length_map,alls_length]
theorem plc_in {d q:List Int} (hc:chk d=0)(h:inb d q=true):(plc d q).1=num d q:=by
 unfold plc ind;rw [decide_eq_true hc,h];rfl
theorem rsp_ok {d l:List Int} (h:(rsp d l).2.2=0):chk l=0∧cnt l=cnt d∧rsp d l=(l,(List.range (cnt d).toNat).map fun i:Nat=>(i:Int),0):=by
 unfold rsp at h ⊢
 by_cases h1:chk l=0
 ·rw [ip h1] at h ⊢
  by_cases h2:cnt l=cnt d
  ·rw [ip h2];exact⟨h1,h2,rfl⟩
  ·rw [iN h2] at h;exact absurd h (by decide)
 ·rw [iN h1] at h;exact absurd h h1
theorem rex_ok {d l:List Int} (h:(rex d l).2.2=0):chk l=0∧fts d l=true∧rex d l=(l,srcs d l,0):=by
 unfold rex at h ⊢
 by_cases h1:chk l=0
 ·rw [ip h1] at h ⊢
  by_cases h2:fts d l=true
  ·rw [ip h2];exact⟨h1,h2,rfl⟩
  ·rw [iN h2] at h;exact absurd h (by decide)
 ·rw [iN h1] at h;exact absurd h h1
theorem rpm_ok {d l:List Int} (h:(rpm d l).2.2=0):(perm d l).2=0∧rpm d l=(prm d l,nums d (prm d l) (fun q=>prm q (bk l)),0):=by
 unfold rpm at h ⊢
 by_cases h1:(perm d l).2=0
 ·rw [ip h1];exact⟨h1,rfl⟩
 ·rw [iN h1] at h;exact absurd h h1
theorem rtk_ok2 {d:List Int} {n:Int} {m:List Int} (h:(rtk d n m).2.2=0):chk d=0∧0≤n∧n < (d.length:Int)∧chk (d.set n.toNat (m.length:Int))=0∧rtk d n m=(d.set n.toNat (m.length:Int),nums d (d.set n.toNat (m.length:Int)) (tkf n m),0):=by
 unfold rtk at h ⊢
 by_cases h1:(withd d n (m.length:Int)).2=0
 ·obtain⟨w1,w2,w3,w4,w5⟩:=withd_o29 h1
  rw [ip h1,w5];exact⟨w1,w2,w3,w4,rfl⟩
 ·rw [iN h1] at h;exact absurd h h1
theorem rtk_at {d:List Int} {n:Int} {m:List Int} (h:(rtk d n m).2.2=0)(hm:∀ x ∈ m,0≤x∧x < at0 d n) (i:Int)(h0:0≤i)(h1:i < cnt (rtk d n m).1) :
  at0 (rtk d n m).2.1 i=num d (tkf n m (dig (rtk d n m).1 i))∧inb d (tkf n m (dig (rtk d n m).1 i))=true∧0≤at0 (dig (rtk d n m).1 i) n∧at0 (dig (rtk d n m).1 i) n < (m.length:Int):=by
 obtain⟨w1,w2,w3,w4,w5⟩:=rtk_ok2 h
 rw [w5] at h1 ⊢
 obtain⟨j,rfl⟩:=Int.eq_ofNat_of_zero_le w2
 rw [Int.toNat_natCast] at w4 h1 ⊢
 have hi:=inb_dig (d.set j (m.length:Int)) (chk_ok w4).2.1 i
 obtain⟨q1,q2,q3⟩:=tkf_inb j (by omega) m hm _ hi
 exact⟨nums_at i h0 h1,q1,q2,q3⟩
theorem rsl_ok {d:List Int} {n a b c:Int} (h:(rsl d n a b c).2.2=0):0≤n∧n < (d.length:Int)∧1≤b∧0≤a∧a < at0 d n∧(∀ i:Nat,i < b.toNat→0≤a + (i:Int) * c∧a + (i:Int) * c < at0 d n)∧rsl d n a b c=rtk d n ((List.range b.toNat).map fun i:Nat=>a + (i:Int) * c):=by
 unfold rsl at h ⊢
 by_cases g1:n < 0∨(d.length:Int)≤n
 ·rw [ip g1] at h;exact absurd h (by decide)
 ·rw [iN g1] at h ⊢
  by_cases g2:b < 1∨at0 d n < b∨a < 0∨at0 d n≤a∨(1 < b∧(c=0∨64 < c∨c < -64))
  ·rw [ip g2] at h;exact absurd h (by decide)
  ·rw [iN g2] at h ⊢
   rw [mrk_eq] at h ⊢
   by_cases g3:∀ i:Nat,i < b.toNat→0≤a + (i:Int) * c∧a + (i:Int) * c < at0 d n
   ·rw [ip g3]
    exact⟨by omega,by omega,by omega,by omega,by omega,g3,rfl⟩
   ·rw [iN g3] at h;exact absurd h (by simp)
theorem rfl_ok {d:List Int} {n:Int} (h:(rfl_ d n).2.2=0):0≤n∧n < (d.length:Int)∧rfl_ d n=rtk d n ((List.range (at0 d n).toNat).map fun i:Nat=>at0 d n - 1 - (i:Int)):=by
 unfold rfl_ at h ⊢
 by_cases g1:n < 0∨(d.length:Int)≤n
 ·rw [ip g1] at h;exact absurd h (by decide)
 ·rw [iN g1];exact⟨by omega,by omega,rfl⟩
theorem rsl_at {d:List Int} {n a b c:Int} (h:(rsl d n a b c).2.2=0) (i:Int)(h0:0≤i)(h1:i < cnt (rsl d n a b c).1) :
  at0 (rsl d n a b c).2.1 i=num d ((dig (rsl d n a b c).1 i).set n.toNat (a + at0 (dig (rsl d n a b c).1 i) n * c))∧inb d ((dig (rsl d n a b c).1 i).set n.toNat (a + at0 (dig (rsl d n a b c).1 i) n * c))=true∧(b=1→at0 (dig (rsl d n a b c).1 i) n=0)∧0≤a + at0 (dig (rsl d n a b c).1 i) n * c∧a + at0 (dig (rsl d n a b c).1 i) n * c < at0 d n:=by
 obtain⟨r1,r2,r3,r4,r5,r6,r7⟩:=rsl_ok h
 rw [r7] at h h1 ⊢
 obtain⟨q1,q2,q3,q4⟩:=rtk_at h (fun x hx=>by
  simp only [List.mem_map,List.mem_range] at hx
  obtain⟨j,hj,rfl⟩:=hx
  exact r6 j hj) i h0 h1
 have hl:((List.range b.toNat).map fun i:Nat=>a + (i:Int) * c).length=b.toNat:=by simp
 rw [hl] at q4
 have e:tkf n ((List.range b.toNat).map fun i:Nat=>a + (i:Int) * c) (dig (rtk d n ((List.range b.toNat).map fun i:Nat=>a + (i:Int) * c)).1 i)=(dig (rtk d n ((List.range b.toNat).map fun i:Nat=>a + (i:Int) * c)).1 i).set n.toNat (a + at0 (dig (rtk d n ((List.range b.toNat).map fun i:Nat=>a + (i:Int) * c)).1 i) n * c):=by
  unfold tkf
  rw [at0_map_range _ _ _ q3 q4,Int.toNat_of_nonneg q3]
 rw [e] at q1 q2
 have:=r6 (at0 (dig (rtk d n ((List.range b.toNat).map fun i:Nat=>a + (i:Int) * c)).1 i) n).toNat (by omega)
 rw [Int.toNat_of_nonneg q3] at this
 exact⟨q1,q2,fun hb=>by omega,this.1,this.2⟩
theorem rfl_at {d:List Int} {n:Int} (h:(rfl_ d n).2.2=0) (i:Int)(h0:0≤i)(h1:i < cnt (rfl_ d n).1) :
  at0 (rfl_ d n).2.1 i=num d ((dig (rfl_ d n).1 i).set n.toNat (at0 d n - 1 - at0 (dig (rfl_ d n).1 i) n))∧inb d ((dig (rfl_ d n).1 i).set n.toNat (at0 d n - 1 - at0 (dig (rfl_ d n).1 i) n))=true∧0≤at0 (dig (rfl_ d n).1 i) n∧at0 (dig (rfl_ d n).1 i) n < at0 d n:=by
 obtain⟨r1,r2,r7⟩:=rfl_ok h
 rw [r7] at h h1 ⊢
 obtain⟨q1,q2,q3,q4⟩:=rtk_at h (fun x hx=>by
  simp only [List.mem_map,List.mem_range] at hx
  obtain⟨j,hj,rfl⟩:=hx
  omega) i h0 h1
 have hl:((List.range (at0 d n).toNat).map fun i:Nat=>at0 d n - 1 - (i:Int)).length=(at0 d n).toNat:=by simp
 rw [hl] at q4
 have e:tkf n ((List.range (at0 d n).toNat).map fun i:Nat=>at0 d n - 1 - (i:Int)) (dig (rtk d n ((List.range (at0 d n).toNat).map fun i:Nat=>at0 d n - 1 - (i:Int))).1 i)=(dig (rtk d n ((List.range (at0 d n).toNat).map fun i:Nat=>at0 d n - 1 - (i:Int))).1 i).set n.toNat (at0 d n - 1 - at0 (dig (rtk d n ((List.range (at0 d n).toNat).map fun i:Nat=>at0 d n - 1 - (i:Int))).1 i) n):=by
  unfold tkf
  rw [at0_map_range _ _ _ q3 q4,Int.toNat_of_nonneg q3]
 rw [e] at q1 q2
 exact⟨q1,q2,q3,by omega⟩
/-- From which operand, and from which of its elements, the i-th one comes. -/
def mff (op n a b c:Int) (l:List Int) (dims:List (List Int)) (i:Int):Int×Int×Bool :=
 if(mvd op n a b c l dims).2=0∧op≠39∧0≤i∧i < cnt (mvd op n a b c l dims).1 then(at0 (ofv op n a b c l dims).2.1 i,at0 (ofv op n a b c l dims).2.2.1 i,true)else(0,0,false)
theorem at0_rep (m:Nat) (i:Int):at0 (List.replicate m 0) i=0:=by
 unfold at0
 rw [List.getD_eq_getElem?_getD,List.getElem?_replicate]
 split <;> rfl
theorem mvd_ok {op n a b c:Int} {l:List Int} {dims:List (List Int)} (h:(mvd op n a b c l dims).2=0):33≤op∧op≤40∧(dims.length:Int)=(if op=40 then 2 else 1)∧fchk dims=0 ∧
  mvd op n a b c l dims=(if op=38 then takd (dims.getD 0 []) n l else if op=39 then putd (dims.getD 0 []) n a l else if op=40 then joind (dims.getD 0 []) (dims.getD 1 []) n else((ses (dims.getD 0 []) op n a b c l).1,(ses (dims.getD 0 []) op n a b c l).2.2)) ∧
  ofv op n a b c l dims=(if op=39 then putv (dims.getD 0 []) n a l else if op=40 then joinv (dims.getD 0 []) (dims.getD 1 []) n else
   if(sgl (dims.getD 0 []) op n a b c l).2.2=0 then((sgl (dims.getD 0 []) op n a b c l).1,List.replicate (sgl (dims.getD 0 []) op n a b c l).2.1.length 0,(sgl (dims.getD 0 []) op n a b c l).2.1,0)else([],[],[],(sgl (dims.getD 0 []) op n a b c l).2.2)):=by
 unfold mvd at h
 by_cases h1:33≤op∧op≤40
 ·rw [ip h1] at h
  by_cases h2:(dims.length:Int)=(if op=40 then 2 else 1)
  ·rw [ip h2] at h
   by_cases h3:fchk dims=0
   ·refine⟨h1.1,h1.2,h2,h3,?_,?_⟩
    ·unfold mvd;rw [ip h1,ip h2,ip h3]
    ·unfold ofv;rw [ip h1,ip h2,ip h3]
   ·rw [iN h3] at h;exact absurd h h3
  ·rw [iN h2] at h;exact absurd h (by decide)
 ·rw [iN h1] at h;exact absurd h (by decide)
theorem mvd_v {op n a b c:Int} {l:List Int} {dims:List (List Int)} (h:(mvd op n a b c l dims).2=0)(h37:op≤37):(ses (dims.getD 0 []) op n a b c l).2.2=0∧(mvd op n a b c l dims).1=(ses (dims.getD 0 []) op n a b c l).1∧(ofv op n a b c l dims).2.2.1=(ses (dims.getD 0 []) op n a b c l).2.1∧(ofv op n a b c l dims).2.1=List.replicate (ses (dims.getD 0 []) op n a b c l).2.1.length 0:=by
 obtain⟨w1,w2,w3,w4,w5,w6⟩:=mvd_ok h
 rw [iN (by omega),iN (by omega),iN (by omega)] at w5
 rw [iN (by omega),iN (by omega)] at w6
 rw [w5] at h
 have hs:sgl (dims.getD 0 []) op n a b c l=ses (dims.getD 0 []) op n a b c l:=by unfold sgl;rw [iN (by omega)]
 rw [hs,ip h] at w6
 rw [w5,w6]
 exact⟨h,rfl,rfl,rfl⟩
theorem mvd_t {n a b c:Int} {l:List Int} {dims:List (List Int)} (h:(mvd 38 n a b c l dims).2=0):(rtk (dims.getD 0 []) n l).2.2=0∧inr l (at0 (dims.getD 0 []) n)=true∧(mvd 38 n a b c l dims).1=(rtk (dims.getD 0 []) n l).1∧(ofv 38 n a b c l dims).2.2.1=(rtk (dims.getD 0 []) n l).2.1∧(ofv 38 n a b c l dims).2.1=List.replicate (rtk (dims.getD 0 []) n l).2.1.length 0:=by
 obtain⟨w1,w2,w3,w4,w5,w6⟩:=mvd_ok h
 rw [ip rfl] at w5
 rw [iN (by decide),iN (by decide)] at w6
 rw [w5] at h
 obtain⟨s1,s2⟩:=sgl_tak (dims.getD 0 []) n a b c l
 have hi:inr l (at0 (dims.getD 0 []) n)=true∧sgl (dims.getD 0 []) 38 n a b c l=rtk (dims.getD 0 []) n l:=by
  unfold takd at h
  unfold sgl
  by_cases g:n < 0∨((dims.getD 0 []).length:Int)≤n
  ·rw [ip g] at h;exact absurd h (by decide)
  ·rw [iN g] at h
   rw [ip rfl,iN g]
   by_cases g2:inr l (at0 (dims.getD 0 []) n)=true
   ·rw [ip g2];exact⟨g2,rfl⟩
   ·rw [iN g2] at h;exact absurd h (by decide)
 rw [ip (by rw [s2];exact h)] at w6
 rw [w6,w5]
 refine⟨by rw [← hi.2,s2];exact h,hi.1,by rw [← hi.2,s1],by rw [hi.2],by rw [hi.2]⟩
theorem inr_mem {l:List Int} {m:Int} (h:inr l m=true):∀ x ∈ l,0≤x∧x < m:=fun x hx=>by
 obtain⟨i,hi,rfl⟩:=List.mem_iff_getElem.1 hx
 exact inr_a29 h i hi
theorem jok_at {n:Int} {a b:List Int} (h:jok n a b 0=true)(j:Nat)(hj:j < a.length)(hn:(j:Int)≠n):at0 a (j:Int)=at0 b (j:Int):=by
 unfold jok at h
 rw [List.all_eq_true] at h
 have:=h j (by rw [List.mem_range];omega)
 rw [Nat.zero_add] at this
 simpa [hn] using this
theorem jn_in {a b:List Int} {n:Int} (h:(joind a b n).2=0) {p:List Int} (hp:inb (joind a b n).1 p=true) :
  (at0 p n < at0 a n→inb a p=true)∧(¬ at0 p n < at0 a n→inb b (p.set n.toNat (at0 p n - at0 a n))=true)∧0≤at0 p n∧at0 p n < at0 a n + at0 b n∧p.length=a.length:=by
 obtain⟨w1,w2,w3,w4,w5,w6,w7⟩:=joind_ok h
 rw [w7] at hp
 obtain⟨j,rfl⟩:=Int.eq_ofNat_of_zero_le w1
 rw [Int.toNat_natCast] at hp ⊢
 obtain⟨hl,hi⟩:=(inb_iff _ _).1 hp
 rw [List.length_set] at hl hi
 have hj:=hi j (by omega)
 rw [at0_set_same _ _ (by omega)] at hj
 refine⟨fun hlt=>(inb_iff _ _).2 ⟨hl,fun k hk=>?_⟩,fun hge=>(inb_iff _ _).2 ⟨by simp;omega,fun k hk=>?_⟩,hj.1,hj.2,hl⟩
 ·by_cases e:j=k
  ·subst e;exact⟨hj.1,hlt⟩
  ·have:=hi k hk
   rw [at0_set_other _ _ _ e] at this
   exact this
 ·by_cases e:j=k
  ·subst e
   rw [at0_set_same _ _ (by omega)]
   omega
  ·have:=hi k (by omega)
   rw [at0_set_other _ _ _ e] at this
   rw [at0_set_other _ _ _ e,← jok_at w4 k (by omega) (by omega)]
   exact this
theorem mvd_j {n a b c:Int} {l:List Int} {dims:List (List Int)} (h:(mvd 40 n a b c l dims).2=0):(joind (dims.getD 0 []) (dims.getD 1 []) n).2=0∧(mvd 40 n a b c l dims).1=(joind (dims.getD 0 []) (dims.getD 1 []) n).1 ∧
  (ofv 40 n a b c l dims).2.1=(alls (joind (dims.getD 0 []) (dims.getD 1 []) n).1).map (jnw (dims.getD 0 []) n)∧(ofv 40 n a b c l dims).2.2.1=(alls (joind (dims.getD 0 []) (dims.getD 1 []) n).1).map (jnf (dims.getD 0 []) (dims.getD 1 []) n):=by
 obtain⟨w1,w2,w3,w4,w5,w6⟩:=mvd_ok h
 rw [iN (by decide),iN (by decide),ip rfl] at w5
 rw [iN (by decide),ip rfl] at w6
 rw [w5] at h
 unfold joinv at w6
 rw [ip h] at w6
 rw [w5,w6]
 exact⟨h,rfl,rfl,rfl⟩
theorem at0_alls {d:List Int} (g:List Int→Int) (i:Int)(h0:0≤i)(h1:i < cnt d):at0 ((alls d).map g) i=g (dig d i):=by
 obtain⟨j,rfl⟩:=Int.eq_ofNat_of_zero_le h0
 have hl:=alls_length d
 rw [at0_get _ _ (by rw [List.length_map];omega),List.getElem_map,alls_get]
theorem rtk_len {d:List Int} {n:Int} {m:List Int} (h:(rtk d n m).2.2=0):((rtk d n m).2.1.length:Int)=cnt (rtk d n m).1:=by
 obtain⟨w1,w2,w3,w4,w5⟩:=rtk_ok2 h
 rw [w5];exact nums_length _ _ _
theorem ses_len {d:List Int} {op n a b c:Int} {l:List Int} (h:(ses d op n a b c l).2.2=0):((ses d op n a b c l).2.1.length:Int)=cnt (ses d op n a b c l).1:=by
 unfold ses at h ⊢
 by_cases e1:op=33
 ·rw [ip e1] at h ⊢
  obtain⟨w1,w2,w3⟩:=rsp_ok h
  have:=(cnt_ok w1).2.1
  rw [w3];simp;omega
 ·rw [iN e1] at h ⊢
  by_cases e2:op=34
  ·rw [ip e2] at h ⊢
   obtain⟨w1,w2⟩:=rpm_ok h
   rw [w2];exact nums_length _ _ _
  ·rw [iN e2] at h ⊢
   by_cases e3:op=35
   ·rw [ip e3] at h ⊢
    obtain⟨r1,r2,r3,r4,r5,r6,r7⟩:=rsl_ok h
    rw [r7] at h ⊢
    exact rtk_len h
   ·rw [iN e3] at h ⊢
    by_cases e4:op=36
    ·rw [ip e4] at h ⊢
     obtain⟨w1,w2,w3⟩:=rex_ok h
     rw [w3];exact srcs_length d l w2
    ·rw [iN e4] at h ⊢
     obtain⟨r1,r2,r3⟩:=rfl_ok h
     rw [r3] at h ⊢
     exact rtk_len h
theorem mff_len {op n a b c:Int} {l:List Int} {dims:List (List Int)} (h39:op≠39)(h:(mvd op n a b c l dims).2=0):((ofv op n a b c l dims).2.1.length:Int)=cnt (mvd op n a b c l dims).1∧((ofv op n a b c l dims).2.2.1.length:Int)=cnt (mvd op n a b c l dims).1:=by
 by_cases h38:op=38
 ·subst h38
  obtain⟨w1,w2,w3,w4,w5⟩:=mvd_t h
  rw [w3,w4,w5,List.length_replicate]
  exact⟨rtk_len w1,rtk_len w1⟩
 ·by_cases h40:op=40
  ·subst h40
   obtain⟨w1,w2,w3,w4⟩:=mvd_j h
   rw [w2,w3,w4,List.length_map,List.length_map]
   exact⟨alls_length _,alls_length _⟩
  ·have:=(mvd_ok h).2.1
   obtain⟨w1,w2,w3,w4⟩:=mvd_v h (by omega)
   rw [w2,w3,w4,List.length_replicate]
   exact⟨ses_len w1,ses_len w1⟩
end Gr
