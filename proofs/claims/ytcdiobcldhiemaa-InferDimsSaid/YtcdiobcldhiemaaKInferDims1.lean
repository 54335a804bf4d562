/- Texts of the proof of InferDims, part 1: what functions of the program compute, and that they compute it. -/
import Derived.Test.YtcdiobcldhiemaaKInferDimsW
import Derived.Test.YtcdiobcldhiemaaKInferDims0
set_option maxHeartbeats 8000000
set_option maxRecDepth 100000
namespace Go.Proofs.Ytcdiobcldhiemaa.Q
open Go.RowKit Go.Proofs.YtcdiobcldhiemaaW.PrintWords Go.Proofs.YtcdiobcldhiemaaW.PrintLast Go.Proofs.YtcdiobcldhiemaaW.PrintMore
attribute [local go_sem] max2_int min2_int max_two min_two max_three min_three max_four min_four   -- for this text's walks alone
set_option linter.unusedVariables false
set_option linter.unusedSimpArgs false
mutual
def fcf.j0:Nat→Int→List Int→Bool→Option (List Bool×Int)
 | 0,_,_,_=>none
 | k+1,x0,x1,x15=>if x15=true then(some (([]:List Bool),9))else(if 0≤x0 then(if(x0:Int).toNat≤281474976710656 then(fcf.l0 k x0 x1 (List.replicate (x0:Int).toNat false) x1 (x1.length:Int) 0)else(none))else(none))
def fcf.l0:Nat→Int→List Int→List Bool→List Int→Int→Int→Option (List Bool×Int)
 | 0,_,_,_,_,_,_=>none
 | k+1,x0,x1,x6,x18,x19,x20=>if x20<x19 then(if 0≤x20 then(if x20<(x18.length:Int)then(if(rd x18 x20)<0 then(some (([]:List Bool),10))else(if(rd x18 x20) ≥ x0 then(some (([]:List Bool),10))else(if 0≤(rd x18 x20)then(if(rd x18 x20)<(x6.length:Int)then(if rdOf false x6 (rd x18 x20)=true then(some (([]:List Bool),10))else(fcf.l0 k x0 x1 (x6.set ((rd x18 x20):Int).toNat true) x18 x19 (wrap64 (x20+1))))else(none))else(none))))else(none))else(none))else(if(x1.length:Int)=0 then(fcf.l1 k x6 (x6.length:Int) 0)else(some (x6,0)))
def fcf.l1:Nat→List Bool→Int→Int→Option (List Bool×Int)
 | 0,_,_,_=>none
 | k+1,x6,x45,x46=>if x46<x45 then(if 0≤x46 then(if x46<(x6.length:Int)then(fcf.l1 k (x6.set (x46:Int).toNat true) x45 (wrap64 (x46+1)))else(none))else(none))else(some (x6,0))
end
def fcf.f (k:Nat) (a0:Int)(l1:List Int):Option (List Bool×Int):=if a0<0 then(fcf.j0 k a0 l1 true)else(fcf.j0 k a0 l1 (decide (a0 > 6)))
theorem fcf.calls (k:Nat) (a0:Int)(A1:Option Addr)(c1:Nat)(l1:List Int)(r1:List Bool) (r2:Int)(w:World)(hr1:Kd.C (Kd.int .i64) w A1 l1.length l1)(hc1:l1.length≤c1)(h:fcf.f k a0 l1=some (r1,r2)) :
  Calls Try.prog 89 #[.int .i64 a0,.slice A1 l1.length c1] w fun e w'=>∃ v0_:Value,e=.returned (.tuple #[v0_,.int .i64 r2])∧Kd.R Kd.bool 4 w' w.heap.size (fun _=>True) v0_ r1∧Below w.heap.size w w':=by
 have HR1:=aM hr1
 have HC1:=aM hc1
 clear hr1 hc1
 have HB:=aM (Below.refl w.heap.size w)
 have H:(if a0<0 then(fcf.j0 k a0 l1 true)else(fcf.j0 k a0 l1 (decide (a0 > 6))))=some (r1,r2):=h
 clear h
 have HC3:=aM H
 clear H
 go_enter Try.func89,Try.ntmps89
 go_upto_region 1 with(fail)
 go_cut [15] (fun v15 wc=>∃ (kq:Nat) (yh:Bool),v15=.bool yh∧Aside0 (fcf.j0 kq a0 l1 yh=some (r1,r2))∧Aside0 (kq≤k)∧Aside0 (Below w.heap.size w wc))
 case first =>
  have H:=HC3.out
  clear HC3
  by_cases c4:a0<0
  ·rw[ip c4] at H
   have zb:=dT c4
   clear c4
   (first|rw[zb]|(simp only[i64_w,i32_w];rw[zb])|skip)
   have H':=aM H
   clear H
   go_wp2
   go_meet
   case rel=>exact⟨_,(true),(pF),H',⟨pO⟩,⟨qB HB⟩⟩
  rw[iN c4] at H
  have zb:=dF c4
  clear c4
  (first|rw[zb]|(simp only[i64_w,i32_w];rw[zb])|skip)
  have H':=aM H
  clear H
  go_wp2
  go_meet
  case rel=>exact⟨_,(decide (a0 > 6)),(pF),H',⟨pO⟩,⟨qB HB⟩⟩
 clear HC3
 try clear c1
 obtain⟨kq,yh,rfl,HA,HJ2,HB⟩:=hcut
 cases kq with
 | zero=>exact absurd HA.out (by simp[fcf.j0])
 | succ kj2=>?_
 have H:=HA.out
 clear HA
 simp only[fcf.j0] at H
 by_cases c5:yh=true
 ·subst c5
  rw[ip rfl] at H
  replace H:=oi2 H
  obtain⟨rfl,rfl⟩:=H
  go_wp2
  go_ret2
  exact⟨_,pE,pN,qB HB⟩
 replace c5:=Bool.eq_false_iff.mpr c5
 subst c5
 rw[iN fT] at H
 by_cases c6:0≤a0
 rotate_left
 ·rw[iN c6] at H
  cases H
 rw[ip c6] at H
 have yu:=eq_true c6
 have yv:=dT c6
 clear c6
 by_cases c7:(a0:Int).toNat≤281474976710656
 rotate_left
 ·rw[iN c7] at H
  cases H
 rw[ip c7] at H
 have yw:=eq_true c7
 have yx:=dT c7
 clear c7
 obtain⟨zm,zc⟩:∃ y_:List Bool,y_=(List.replicate (a0:Int).toNat false):=⟨_,rfl⟩
 replace H:(fcf.l0 kj2 a0 l1 zm l1 (l1.length:Int) 0)=some (r1,r2):=pH zc H
 have zg:=aM zc
 clear zc
 have H':=aM H
 clear H
 go_wp2_with (first|((with_reducible refine gD 17 rfl ?_);refine Kd.R_make Kd.bool _ 4 rfl (N:=17) rfl 93 _ _ rfl a0 rfl rfl Try.underlying93 (.bool false) 1 info4 rfl (by decide) (by omega) false (ok:=fun _=>True) (okp:=fun _=>True) rfl (fun _ hk=>hk) trivial (of_decide_eq_true pD) (Nat.le_trans (Nat.mul_le_mul_right _ (of_decide_eq_true pD:a0.toNat≤281474976710656)) (by omega)) (Below.refl _ _) (Nat.le_refl _) ?_;intro v139 w8 ho9 hb hg_ hnew_;clear hg_ hnew_;(first|rw[← zg.out] at ho9|(simp only[Int.reduceToNat] at ho9;rw[← zg.out] at ho9));have HO140:=aM (Kd.R_lower ho9 (below_size (qB HB)));replace HB:=bS (qB HB) hb;clear hb ho9))
 go_loopg [20] kj2 (fun kq v20 w'=>∃ (yd:List Bool) (ya:Int),v20=.int .i64 ya∧Aside0 (fcf.l0 kq a0 l1 yd l1 (l1.length:Int) ya=some (r1,r2))∧Aside0 (kq≤kj2)∧Aside0 (Kd.R Kd.bool 4 w' w.heap.size (fun _=>True) v139 yd)∧Aside0 (Below w.heap.size w w'))
 case atStart=>exact⟨(zm),(0),(pF),H',⟨Nat.le_refl _⟩,⟨pR HO140.out⟩,⟨qB HB⟩⟩
 clear H'
 try clear c5
 try clear yu
 try clear yv
 try clear yw
 try clear yx
 obtain⟨yd,ya,rfl,HA,HK2,za,HB⟩:=hrel
 cases gk with
 | zero=>exact absurd HA.out (by simp[fcf.l0])
 | succ k2=>?_
 have H:=HA.out
 clear HA
 simp only[fcf.l0] at H
 by_cases c10:ya<(l1.length:Int)
 ·rw[ip c10] at H
  have zh:=dT c10
  clear c10
  by_cases c11:0≤ya
  rotate_left
  ·rw[iN c11] at H
   cases H
  rw[ip c11] at H
  have c11b0:=dT c11
  clear c11
  by_cases c12:ya<(l1.length:Int)
  rotate_left
  ·rw[iN c12] at H
   cases H
  rw[ip c12] at H
  have c12b0:=dT c12
  clear c12
  by_cases c13:(rd l1 ya)<0
  ·rw[ip c13] at H
   have yq:=dT c13
   clear c13
   replace H:=oi2 H
   obtain⟨rfl,rfl⟩:=H
   obtain⟨yi,⟨⟩,yb,yj,yk⟩:=zI HR1.out ya
   replace yb:=zW HB yb
   go_wp2
   go_ret2
   exact⟨_,pE,pN,qB HB⟩
  rw[iN c13] at H
  have yq:=dF c13
  clear c13
  by_cases c14:(rd l1 ya) ≥ a0
  ·rw[ip c14] at H
   have yr:decide (a0≤(rd l1 ya))=true:=decide_eq_true c14
   clear c14
   replace H:=oi2 H
   obtain⟨rfl,rfl⟩:=H
   obtain⟨yi,⟨⟩,yb,yj,yk⟩:=zI HR1.out ya
   replace yb:=zW HB yb
   go_wp2
   go_ret2
   exact⟨_,pE,pN,qB HB⟩
  rw[iN c14] at H
  have yr:decide (a0≤(rd l1 ya))=false:=decide_eq_false c14
  clear c14
  by_cases c15:0≤(rd l1 ya)
  rotate_left
  ·rw[iN c15] at H
   cases H
  rw[ip c15] at H
  have c15b0:=dT c15
  clear c15
  by_cases c16:(rd l1 ya)<(yd.length:Int)
  rotate_left
  ·rw[iN c16] at H
   cases H
  rw[ip c16] at H
  have c16b0:=dT c16
  clear c16
  obtain⟨bq17,hbq17⟩:∃ b_:Bool,b_=(rdOf false yd (rd l1 ya)):=⟨_,rfl⟩
  replace H:(if bq17=true then(some (([]:List Bool),10))else(fcf.l0 k2 a0 l1 (yd.set ((rd l1 ya):Int).toNat true) l1 (l1.length:Int) (wrap64 (ya+1))))=some (r1,r2):=by rw[← hbq17] at H;exact H
  have Nbq17:=aM hbq17
  clear hbq17
  by_cases c18:bq17=true
  ·subst c18
   rw[ip rfl] at H
   replace H:=oi2 H
   obtain⟨rfl,rfl⟩:=H
   obtain⟨yi,⟨⟩,yb,yj,yk⟩:=zI HR1.out ya
   replace yb:=zW HB yb
   obtain⟨Ao19,co19,yy⟩:=Kd.R_slice za.out
   subst yy
   have yl:0≤((rd l1 ya):Int):=oD
   have ym:(rd l1 ya)<(yd.length:Int):=oD
   obtain⟨ys,yn,ye⟩:=Kd.at_bool (Kd.R_reads' za.out).2.2 (rd l1 ya) yl ym
   (try rw[← Nbq17.out] at ye)
   cases yn
   go_wp2
   go_ret2
   exact⟨_,pE,pN,qB HB⟩
  replace c18:=Bool.eq_false_iff.mpr c18
  subst c18
  rw[iN fT] at H
  obtain⟨zk,zd⟩:∃ y_:List Bool,y_=(yd.set ((rd l1 ya):Int).toNat true):=⟨_,rfl⟩
  replace H:(fcf.l0 k2 a0 l1 zk l1 (l1.length:Int) (wrap64 (ya+1)))=some (r1,r2):=pH zd H
  have Ny143:=aM zd
  clear zd
  have H':=aM H
  clear H
  obtain⟨yi,⟨⟩,yb,yj,yk⟩:=zI HR1.out ya
  replace yb:=zW HB yb
  obtain⟨Ao21,yz,y0⟩:=Kd.R_slice za.out
  subst y0
  have yl:0≤((rd l1 ya):Int):=oD
  have ym:(rd l1 ya)<(yd.length:Int):=oD
  obtain⟨ys,yn,ye⟩:=Kd.at_bool (Kd.R_reads' za.out).2.2 (rd l1 ya) yl ym
  (try rw[← Nbq17.out] at ye)
  cases yn
  have y3:0≤((rd l1 ya):Int):=oD
  have y4:((rd l1 ya):Int)<((yd.length:Int):Int):=oD
  obtain⟨yo,co20,zn,zo,gl20,cl20,HG20⟩:=Kd.R_form za.out (by omega)
  (first|cases zn|(injection zn with ea_ en_ ec_;(first|subst ea_|(injection ea_ with ea_;subst ea_));subst ec_;clear en_))
  have GB20:=aM zo
  have GG20:=aM HG20
  clear zo gl20 HG20
  (first|simp only[add_plain] at ye|skip)
  obtain⟨hx20_0,hf20_0⟩:=Kd.R_celln false za.out ((rd l1 ya):Int) y3 y4
  have HP22:=Kd.R_putg za.out ((rd l1 ya):Int) true
  go_wp2_with (first|((with_reducible refine gate_store (t:=4) (p:=39) rfl ?_);refine store_event (t:=4) (p:=39) (v:=?vo_w23) (w1:=(wr.setCell ⟨yo,((rd l1 ya):Int).toNat,none⟩ (.bool true))) ?hg ?ho ?hn ?hr ?_;(case ho=>rfl);(case hg=>rfl);(case hn=>rfl);(case hr=>first|(go_simp;done)|(go_simp;rfl));intro w23 hw;have hg:wr.grownBy w23 (some yo):=(by rw[hw];exact HP22.2);have hp_:Kd.R Kd.bool 4 w23 w.heap.size (fun _=>True) (.slice (some ⟨yo,0,none⟩) yd.length yz) zk:=(by rw[hw,Ny143.out];exact HP22.1);clear HP22;replace za:=aM (hp_);replace HB:=aM ((by rw[hw];exact below_set (HB.out) GB20.out:Below w.heap.size w w23));clear hg hw hp_))
  go_roundg k2
  case measure=>have:=HJ2.out;have:=HK2.out;omega
  case rel=>exact⟨(zk),(wrap64 (ya+1)),(pF),H',⟨pO2 HJ2 HK2⟩,⟨pR za.out⟩,⟨qB HB⟩⟩
 rw[iN c10] at H
 have zh:=dF c10
 clear c10
 by_cases c24:(l1.length:Int)=0
 rotate_left
 ·rw[iN c24] at H
  have zi:=bF c24
  have zj:=nT c24
  have c24b2:¬ (l1=[]):=fun h_=>c24 (by rw[h_];rfl)
  replace H:=oi2 H
  obtain⟨rfl,rfl⟩:=H
  go_wp2
  go_ret2
  exact⟨_,pE,pR za.out,qB HB⟩
 rw[ip c24] at H
 have zi:=bT c24
 have zj:=nF c24
 clear c24
 have H':=aM H
 clear H
 obtain⟨y1,zp,y2⟩:=Kd.R_slice za.out
 subst y2
 go_wp2
 go_loopg [46] k2 (fun kq v46 w'=>∃ (yg:List Bool) (yc:Int),v46=.int .i64 yc∧Aside0 (fcf.l1 kq yg (yd.length:Int) yc=some (r1,r2))∧Aside0 (kq≤k2)∧Aside0 (Kd.R Kd.bool 4 w' w.heap.size (fun _=>True) (.slice y1 yd.length zp) yg)∧Aside0 (Below w.heap.size w w'))
 case atStart=>exact⟨(yd),(0),(pF),H',⟨Nat.le_refl _⟩,⟨pR za.out⟩,⟨qB HB⟩⟩
 clear H'
 try clear zh
 try clear zi
 try clear zj
 obtain⟨yg,yc,rfl,HA,HK3,za,HB⟩:=hrel
 have yf:=(Kd.R_reads' za.out).1
 rw[yf] at za
 (try simp only[yf])
 cases gk with
 | zero=>exact absurd HA.out (by simp[fcf.l1])
 | succ k3=>?_
 have H:=HA.out
 clear HA
 simp only[fcf.l1] at H
 by_cases c26:yc<(yd.length:Int)
 rotate_left
 ·rw[iN c26] at H
  have ze:=dF c26
  (try simp only[yf] at ze)
  clear c26
  replace H:=oi2 H
  obtain⟨rfl,rfl⟩:=H
  go_wp2
  go_ret2
  exact⟨_,pE,pR za.out,qB HB⟩
 rw[ip c26] at H
 have ze:=dT c26
 (try simp only[yf] at ze)
 clear c26
 by_cases c27:0≤yc
 rotate_left
 ·rw[iN c27] at H
  cases H
 rw[ip c27] at H
 have c27b0:=dT c27
 clear c27
 by_cases c28:yc<(yg.length:Int)
 rotate_left
 ·rw[iN c28] at H
  cases H
 rw[ip c28] at H
 have yt:=dT c28
 (try simp only[yf] at yt)
 clear c28
 obtain⟨zl,zf⟩:∃ y_:List Bool,y_=(yg.set (yc:Int).toNat true):=⟨_,rfl⟩
 replace H:(fcf.l1 k3 zl (yd.length:Int) (wrap64 (yc+1)))=some (r1,r2):=pH zf H
 have Ny144:=aM zf
 clear zf
 have H':=aM H
 clear H
 have y5:0≤(yc:Int):=oD
 have y6:(yc:Int)<((yg.length:Int):Int):=oD
 obtain⟨yp,co29,zq,zr,gl29,cl29,HG29⟩:=Kd.R_form za.out (by omega)
 (first|cases zq|(injection zq with ea_ en_ ec_;(first|subst ea_|(injection ea_ with ea_;subst ea_));subst ec_;clear en_))
 have GB29:=aM zr
 have GG29:=aM HG29
 clear zr gl29 HG29
 obtain⟨hx29_0,hf29_0⟩:=Kd.R_celln false za.out (yc:Int) y5 y6
 have HP30:=Kd.R_putg za.out (yc:Int) true
 go_wp2_with (first|((with_reducible refine gate_store (t:=4) (p:=51) rfl ?_);refine store_event (t:=4) (p:=51) (v:=?vo_w31) (w1:=(wr.setCell ⟨yp,(yc:Int).toNat,none⟩ (.bool true))) ?hg ?ho ?hn ?hr ?_;(case ho=>rfl);(case hg=>rfl);(case hn=>rfl);(case hr=>first|(go_simp;done)|(go_simp;rfl));intro w31 hw;have hg:wr.grownBy w31 (some yp):=(by rw[hw];exact HP30.2);have hp_:Kd.R Kd.bool 4 w31 w.heap.size (fun _=>True) (.slice (some ⟨yp,0,none⟩) yg.length zp) zl:=(by rw[hw,Ny144.out];exact HP30.1);clear HP30;replace za:=aM (hp_);replace HB:=aM ((by rw[hw];exact below_set (HB.out) GB29.out:Below w.heap.size w w31));clear hg hw hp_))
 (try simp only[← yf])
 go_roundg k3
 case measure=>have:=HJ2.out;have:=HK2.out;have:=HK3.out;omega
 case rel=>exact⟨(zl),(wrap64 (yc+1)),(pF),H',⟨by have:=HJ2.out;have:=HK2.out;have:=HK3.out;omega⟩,⟨by(try simp only[yf]);(with_reducible repeat(first|apply rA|apply rN|apply rD));exact za.out⟩,⟨qB HB⟩⟩
def fcj.l0:Nat→List Int→List Int→List Int→Int→Int→Option (List Int×Int)
 | 0,_,_,_,_,_=>none
 | k+1,x0,x9,x32,x33,x34=>if x34<x33 then(if 0≤x34 then(if x34<(x32.length:Int)then(if 0≤(rd x32 x34)then(if(rd x32 x34)<(x0.length:Int)then(if x9.length<17592186044416 then(fcj.l0 k x0 (x9++[rd x0 (rd x32 x34)]) x32 x33 (wrap64 (x34+1)))else(none))else(none))else(none))else(none))else(none))else(some (x9,0))
def fcj.f (k:Nat) (l0 l1:List Int):Option (List Int×Int):=(fcg.f l0).bind fun za=>(if za=0 then(if(l1.length:Int)=(l0.length:Int)then((fcf.f k (l0.length:Int) l1).bind fun bt146=>(if bt146.2=0 then(fcj.l0 k l0 ([]:List Int) l1 (l1.length:Int) 0)else(some (([]:List Int),bt146.2))))else(some (([]:List Int),10)))else(some (([]:List Int),za)))
theorem fcj.calls (k:Nat)(A0:Option Addr)(c0:Nat)(l0:List Int)(A1:Option Addr)(c1:Nat)(l1 r1:List Int)(r2:Int)(w:World)(hr0:Kd.C (Kd.int .i64) w A0 l0.length l0)(hc0:l0.length≤c0)(hr1:Kd.C (Kd.int .i64) w A1 l1.length l1)(hc1:l1.length≤c1)(h:fcj.f k l0 l1=some (r1,r2)) :
  Calls Try.prog 71 #[.slice A0 l0.length c0,.slice A1 l1.length c1] w fun e w'=>∃ v0_:Value,e=.returned (.tuple #[v0_,.int .i64 r2])∧Kd.R (Kd.int .i64) 3 w' w.heap.size (fun _=>True) v0_ r1∧Below w.heap.size w w':=by
 have HR0:=aM hr0
 have HC0:=aM hc0
 clear hr0 hc0
 have HR1:=aM hr1
 have HC1:=aM hc1
 clear hr1 hc1
 have HB:=aM (Below.refl w.heap.size w)
 have H:((fcg.f l0).bind fun za=>(if za=0 then(if(l1.length:Int)=(l0.length:Int)then((fcf.f k (l0.length:Int) l1).bind fun bt146=>(if bt146.2=0 then(fcj.l0 k l0 ([]:List Int) l1 (l1.length:Int) 0)else(some (([]:List Int),bt146.2))))else(some (([]:List Int),10)))else(some (([]:List Int),za))))=some (r1,r2):=h
 clear h
 replace H:=oB H
 obtain⟨za,A30,H⟩:=H
 try dsimp only at H
 have A3:=aM A30
 clear A30
 by_cases c4:za=0
 rotate_left
 ·rw[iN c4] at H
  have ze:=bF c4
  have zf:=nT c4
  replace H:=oi2 H
  obtain⟨rfl,rfl⟩:=H
  go_enter Try.func71,Try.ntmps71
  go_wp2_with (first|((with_reducible refine gC 31 rfl ?_);refine gL 13 Try.func31 #[.slice A0 l0.length c0] ?_;(with_reducible refine(fcg.calls _ _ l0 za _ ?s1 HC0.out A3.out).mono ?_);(case s1=>exact pC HR0.out);rintro e w' ⟨rfl,⟨nd,rfl⟩⟩;refine⟨_,rfl,?_⟩))
  go_ret2
  exact⟨_,pE,pN,qB HB⟩
 rw[ip c4] at H
 have ze:=bT c4
 have zf:=nF c4
 clear c4
 by_cases c5:(l1.length:Int)=(l0.length:Int)
 rotate_left
 ·rw[iN c5] at H
  have zg:=bF c5
  have zh:=nT c5
  have zi:(l1.length==l0.length)=false:=by first|simpa using c5|(simp at c5 ⊢;omega)
  replace H:=oi2 H
  obtain⟨rfl,rfl⟩:=H
  go_enter Try.func71,Try.ntmps71
  go_wp2_with (first|((with_reducible refine gC 31 rfl ?_);refine gL 13 Try.func31 #[.slice A0 l0.length c0] ?_;(with_reducible refine(fcg.calls _ _ l0 za _ ?s1 HC0.out A3.out).mono ?_);(case s1=>exact pC HR0.out);rintro e w' ⟨rfl,⟨nd,rfl⟩⟩;refine⟨_,rfl,?_⟩))
  go_ret2
  exact⟨_,pE,pN,qB HB⟩
 rw[ip c5] at H
 have zg:=bT c5
 have zh:=nF c5
 have zi:(l1.length==l0.length)=true:=by first|simpa using c5|(simp at c5 ⊢;omega)
 clear c5
 replace H:=oB H
 obtain⟨⟨zj,zb⟩,A60,H⟩:=H
 try dsimp only at H
 have A6:=aM A60
 clear A60
 by_cases c7:zb=0
 rotate_left
 ·rw[iN c7] at H
  have zk:=bF c7
  have zl:=nT c7
  replace H:=oi2 H
  obtain⟨rfl,rfl⟩:=H
  go_enter Try.func71,Try.ntmps71
  go_wp2_with (first|((with_reducible refine gC 31 rfl ?_);refine gL 13 Try.func31 #[.slice A0 l0.length c0] ?_;(with_reducible refine(fcg.calls _ _ l0 za _ ?s1 HC0.out A3.out).mono ?_);(case s1=>exact pC HR0.out);rintro e w' ⟨rfl,⟨nd,rfl⟩⟩;refine⟨_,rfl,?_⟩)|((with_reducible refine gC 89 rfl ?_);refine gL 26 Try.func89 #[.int .i64 (l0.length:Int),.slice A1 l1.length c1] ?_;(with_reducible refine(fcf.calls k (l0.length:Int) _ _ l1 zj zb _ ?s1 HC1.out A6.out).mono ?_);(case s1=>exact pC HR1.out);rintro e w16 ⟨v148,rfl,ho0,hb⟩;refine⟨_,rfl,?_⟩;have HO149:=aM (Kd.R_lower ho0 (below_size (qB HB)));replace HB:=bS (qB HB) hb))
  go_ret2
  exact⟨_,pE,pN,qB HB⟩
 rw[ip c7] at H
 have zk:=bT c7
 have zl:=nF c7
 clear c7
 have H':=aM H
 clear H
 go_enter Try.func71,Try.ntmps71
 go_wp2_with (first|((with_reducible refine gC 31 rfl ?_);refine gL 13 Try.func31 #[.slice A0 l0.length c0] ?_;(with_reducible refine(fcg.calls _ _ l0 za _ ?s1 HC0.out A3.out).mono ?_);(case s1=>exact pC HR0.out);rintro e w' ⟨rfl,⟨nd,rfl⟩⟩;refine⟨_,rfl,?_⟩)|((with_reducible refine gC 89 rfl ?_);refine gL 26 Try.func89 #[.int .i64 (l0.length:Int),.slice A1 l1.length c1] ?_;(with_reducible refine(fcf.calls k (l0.length:Int) _ _ l1 zj zb _ ?s1 HC1.out A6.out).mono ?_);(case s1=>exact pC HR1.out);rintro e w8 ⟨v148,rfl,ho0,hb⟩;refine⟨_,rfl,?_⟩;have HO149:=aM (Kd.R_lower ho0 (below_size (qB HB)));replace HB:=bS (qB HB) hb))
 go_loopg [9,34] k (fun kq v9 v34 w'=>∃ (yd:List Int) (ya:Int),v34=.int .i64 ya∧Aside0 (fcj.l0 kq l0 yd l1 (l1.length:Int) ya=some (r1,r2))∧Aside0 (kq≤k)∧Aside0 (Kd.R (Kd.int .i64) 3 w' w.heap.size (fun _=>True) v9 yd)∧Aside0 (Below w.heap.size w w'))
 case atStart=>exact⟨(([]:List Int)),(0),(pF),H',⟨Nat.le_refl _⟩,⟨pN⟩,⟨qB HB⟩⟩
 clear H'
 try clear c1
 try clear ze
 try clear zf
 try clear zg
 try clear zh
 try clear zi
 try clear zk
 try clear zl
 obtain⟨yd,ya,rfl,HA,HK1,zd,HB⟩:=hrel
 cases gk with
 | zero=>exact absurd HA.out (by simp[fcj.l0])
 | succ k1=>?_
 have H:=HA.out
 clear HA
 simp only[fcj.l0] at H
 by_cases c9:ya<(l1.length:Int)
 rotate_left
 ·rw[iN c9] at H
  have ye:=dF c9
  clear c9
  replace H:=oi2 H
  obtain⟨rfl,rfl⟩:=H
  go_wp2
  go_ret2
  exact⟨_,pE,pR zd.out,qB HB⟩
 rw[ip c9] at H
 have ye:=dT c9
 clear c9
 by_cases c10:0≤ya
 rotate_left
 ·rw[iN c10] at H
  cases H
 rw[ip c10] at H
 have c10b0:=dT c10
 clear c10
 by_cases c11:ya<(l1.length:Int)
 rotate_left
 ·rw[iN c11] at H
  cases H
 rw[ip c11] at H
 have c11b0:=dT c11
 clear c11
 by_cases c12:0≤(rd l1 ya)
 rotate_left
 ·rw[iN c12] at H
  cases H
 rw[ip c12] at H
 have c12b0:=dT c12
 clear c12
 by_cases c13:(rd l1 ya)<(l0.length:Int)
 rotate_left
 ·rw[iN c13] at H
  cases H
 rw[ip c13] at H
 have c13b0:=dT c13
 clear c13
 by_cases c14:yd.length<17592186044416
 rotate_left
 ·rw[iN c14] at H
  cases H
 rw[ip c14] at H
 have LMc14:=aM c14
 clear c14
 obtain⟨zm,zc⟩:∃ y_:List Int,y_=(yd++[rd l0 (rd l1 ya)]):=⟨_,rfl⟩
 replace H:(fcj.l0 k1 l0 zm l1 (l1.length:Int) (wrap64 (ya+1)))=some (r1,r2):=pH zc H
 have Ny152:=aM zc
 clear zc
 have H':=aM H
 clear H
 obtain⟨ad150,⟨⟩,yb,p150,q150⟩:=zI HR1.out ya
 replace yb:=zW HB yb
 obtain⟨ad151,⟨⟩,yc,p151,q151⟩:=zI HR0.out (rd l1 ya)
 replace yc:=zW HB yc
 go_wp2_with (first|((with_reducible refine gate_builtin (b:=.append) (xs:=#[.tmp 38,.tmp 43]) rfl ?_);at_builtin;refine Kd.R_append (Kd.int .i64) (w0:=w) w.heap.size rfl (.tmp 38) (.tmp 43) 22 3 (.int .i64 0) 8 rfl Try.underlying22 info3 rfl (by decide) (by omega) u9 yd (rd l0 (rd l1 ya)) [.int .i64 (rd l0 (rd l1 ya))] (fun _=>True) (fun _=>False) rfl rfl ?aP (fun _ hk=>hk.elim) ?aF ?aO ?aB ?aS ?aL ?_;(case aP=>exact rfl);(case aB=>exact(qB HB));(case aF=>exact(fun _ _=>trivial));(case aO=>exact(pR zd.out));(case aS=>exact(below_size (qB HB)));(case aL=>have:=LMc14.out;omega);intro v153 w15 ho hb hg hat;rw[← Ny152.out] at ho;replace HB:=aM (hb);have HO154:=aM (ho);clear zd;clear ho hb hg hat))
 go_roundg k1
 case measure=>have:=HK1.out;omega
 case rel=>exact⟨(zm),(wrap64 (ya+1)),(pF),H',⟨pO1 HK1⟩,⟨pR HO154.out⟩,⟨qB HB⟩⟩
def fcv.l0:Nat→List Int→List Int→List Int→Int→Int→Int→List Int→List Int→Option (Int×List Int×List Int×Int)
 | 0,_,_,_,_,_,_,_,_=>none
 | k+1,x6,x8,x26,x27,x28,zn,yl,zh=>if x28<x27 then(if 0≤x28 then(if x28<(x26.length:Int)then(if 0≤(rd x26 x28)then(if(rd x26 x28)<(zh.length:Int)then(if x8.length<17592186044416 then(fcv.l0 k x6 (x8++[rd zh (rd x26 x28)]) x26 x27 (wrap64 (x28+1)) zn yl zh)else(none))else(none))else(none))else(none))else(none))else(some (zn,x6,x8,0))
def fcv.f (k:Nat) (yd:Int)(ya yb l1:List Int):Option (Int×List Int×List Int×Int):=(fdd.f k yd ya yb).bind fun zt=>(if zt=true then((fcj.f k ya l1).bind fun bt158=>(if bt158.2=0 then(fcv.l0 k bt158.1 ([]:List Int) l1 (l1.length:Int) 0 yd ya yb)else(some (0,([]:List Int),([]:List Int),bt158.2))))else(some (0,([]:List Int),([]:List Int),1)))
theorem fcv.calls (k:Nat) (yd:Int)(ye:Option Addr)(yf:Nat)(ya:List Int)(yg:Option Addr)(yh:Nat)(yb:List Int)(A1:Option Addr)(c1:Nat)(l1:List Int)(r1:Int)(r2 r3:List Int)(r4:Int)(w:World)(ym:Kd.C (Kd.int .i64) w ye ya.length ya)(yn:ya.length≤yf)(yo:Kd.C (Kd.int .i64) w yg yb.length yb)(yp:yb.length≤yh)(hr1:Kd.C (Kd.int .i64) w A1 l1.length l1)(hc1:l1.length≤c1)(h:fcv.f k yd ya yb l1=some (r1,r2,r3,r4)) :
  Calls Try.prog 44 #[.agg #[.int .i64 yd,.slice ye ya.length yf,.slice yg yb.length yh],.slice A1 l1.length c1] w fun e w'=>∃ v1_ v2_:Value,e=.returned (.tuple #[.agg #[.int .i64 r1,v1_,v2_],.int .i64 r4])∧Kd.R (Kd.int .i64) 3 w' w.heap.size (fun k_=>some k_≠(v2_:Value).ownBlock) v1_ r2∧Kd.R (Kd.int .i64) 3 w' w.heap.size (fun k_=>some k_≠(v1_:Value).ownBlock) v2_ r3∧Below w.heap.size w w':=by
 have hu44:=Try.underlying44
 have zi:=aM ym
 have zj:=aM yn
 clear ym yn
 have zo:=aM yo
 have zu:=aM yp
 clear yo yp
 have HR1:=aM hr1
 have HC1:=aM hc1
 clear hr1 hc1
 have HB:=aM (Below.refl w.heap.size w)
 have H:((fdd.f k yd ya yb).bind fun zt=>(if zt=true then((fcj.f k ya l1).bind fun bt158=>(if bt158.2=0 then(fcv.l0 k bt158.1 ([]:List Int) l1 (l1.length:Int) 0 yd ya yb)else(some (0,([]:List Int),([]:List Int),bt158.2))))else(some (0,([]:List Int),([]:List Int),1))))=some (r1,r2,r3,r4):=h
 clear h
 replace H:=oB H
 obtain⟨zt,A30,H⟩:=H
 try dsimp only at H
 have A3:=aM A30
 clear A30
 by_cases c4:zt=true
 rotate_left
 ·replace c4:=Bool.eq_false_iff.mpr c4
  subst c4
  rw[iN fT] at H
  replace H:=oi4 H
  obtain⟨rfl,rfl,rfl,rfl⟩:=H
  go_enter Try.func44,Try.ntmps44
  go_wp2_with (first|((with_reducible refine gD 2 rfl ?_);refine bX 2 44 #[.int .i64 yd,.slice ye ya.length yf,.slice yg yb.length yh] ?_;intro zp hg w36 hbox hb;have za:=aM (hbox);have zk:=gE (w:=w) hg (qB HB);have zc:=zk;replace HB:=bS (qB HB) hb;clear hb hbox hg)|((with_reducible refine gD 4 rfl ?_);refine bX 4 44 #[.int .i64 0,.slice none 0 0,.slice none 0 0] ?_;intro zg hg w37 hbox hb;have zb:=aM (hbox);have zl:=gE (w:=w) hg (qB1 HB zc);have zf:=zl;replace HB:=bS (qB1 HB zc) hb;have zd:=nL hg za;have ze:=nG hg za;replace za:=bK za hb;clear hb hbox hg;have hnb38:=zd.out;have hnc38:=ze.out;have hcz39:=blk3 za.out)|((with_reducible refine gC 49 rfl ?_);refine gL 12 Try.func49 #[.agg #[.int .i64 yd,.slice ye ya.length yf,.slice yg yb.length yh]] ?_;(with_reducible refine(fdd.calls k yd _ _ ya _ _ yb false _ ?s1 zj.out ?s3 zu.out A3.out).mono ?_);(case s1=>exact sC zi HB);(case s3=>exact sC zo HB);rintro e w40 ⟨rfl,hb⟩;refine⟨_,rfl,?_⟩;replace za:=bK za hb;replace zb:=bK zb hb;replace HB:=bS (qB2 HB zc zf) hb;have hcz41:=blk3 zb.out))
  refine bodyPost_ret (results_ct rfl _ _ zg 44 #[.int .i64 0,.slice none 0 0,.slice none 0 0] (0,0) _ rfl (by exact P3 zb) Try.underlying44 rfl (by kernel_rfl)) rfl ?_
  exact⟨_,_,pE,pN,pN,qB2 HB zc zf⟩
 subst c4
 rw[ip rfl] at H
 replace H:=oB H
 obtain⟨⟨zq,zm⟩,A50,H⟩:=H
 try dsimp only at H
 have A5:=aM A50
 clear A50
 by_cases c6:zm=0
 rotate_left
 ·rw[iN c6] at H
  have zy:=bF c6
  have zz:=nT c6
  replace H:=oi4 H
  obtain⟨rfl,rfl,rfl,rfl⟩:=H
  go_enter Try.func44,Try.ntmps44
  go_wp2_with (first|((with_reducible refine gD 2 rfl ?_);refine bX 2 44 #[.int .i64 yd,.slice ye ya.length yf,.slice yg yb.length yh] ?_;intro zp hg w28 hbox hb;have za:=aM (hbox);have zk:=gE (w:=w) hg (qB HB);have zc:=zk;replace HB:=bS (qB HB) hb;clear hb hbox hg)|((with_reducible refine gD 4 rfl ?_);refine bX 4 44 #[.int .i64 0,.slice none 0 0,.slice none 0 0] ?_;intro zg hg w29 hbox hb;have zb:=aM (hbox);have zl:=gE (w:=w) hg (qB1 HB zc);have zf:=zl;replace HB:=bS (qB1 HB zc) hb;have zd:=nL hg za;have ze:=nG hg za;replace za:=bK za hb;clear hb hbox hg;have hnb30:=zd.out;have hnc30:=ze.out;have hcz31:=blk3 za.out)|((with_reducible refine gC 49 rfl ?_);refine gL 12 Try.func49 #[.agg #[.int .i64 yd,.slice ye ya.length yf,.slice yg yb.length yh]] ?_;(with_reducible refine(fdd.calls k yd _ _ ya _ _ yb true _ ?s1 zj.out ?s3 zu.out A3.out).mono ?_);(case s1=>exact sC zi HB);(case s3=>exact sC zo HB);rintro e w32 ⟨rfl,hb⟩;refine⟨_,rfl,?_⟩;replace za:=bK za hb;replace zb:=bK zb hb;replace HB:=bS (qB2 HB zc zf) hb;have hcz33:=blk3 za.out)|((with_reducible refine gC 71 rfl ?_);refine gL 19 Try.func71 #[.slice ye ya.length yf,.slice A1 l1.length c1] ?_;(with_reducible refine(fcj.calls k _ _ ya _ _ l1 zq zm _ ?s1 zj.out ?s3 HC1.out A5.out).mono ?_);(case s1=>exact sC zi HB);(case s3=>exact sC HR1 HB);rintro e w34 ⟨zw,rfl,ho0,hb⟩;refine⟨_,rfl,?_⟩;have zx:=aM (Kd.R_lower ho0 (below_size (qB2 HB zc zf)));replace za:=bK za hb;replace zb:=bK zb hb;replace HB:=bS (qB2 HB zc zf) hb;have hcz35:=blk3 zb.out))
  refine bodyPost_ret (results_ct rfl _ _ zg 44 #[.int .i64 0,.slice none 0 0,.slice none 0 0] (0,0) _ rfl (by exact P3 zb) Try.underlying44 rfl (by kernel_rfl)) rfl ?_
  exact⟨_,_,pE,pN,pN,qB2 HB zc zf⟩
 rw[ip c6] at H
 have zy:=bT c6
 have zz:=nF c6
 clear c6
 have H':=aM H
 clear H
 go_enter Try.func44,Try.ntmps44
 go_wp2_with (first|((with_reducible refine gD 2 rfl ?_);refine bX 2 44 #[.int .i64 yd,.slice ye ya.length yf,.slice yg yb.length yh] ?_;intro zp hg w7 hbox hb;have za:=aM (hbox);have zk:=gE (w:=w) hg (qB HB);have zc:=zk;replace HB:=bS (qB HB) hb;clear hb hbox hg)|((with_reducible refine gD 4 rfl ?_);refine bX 4 44 #[.int .i64 0,.slice none 0 0,.slice none 0 0] ?_;intro zg hg w8 hbox hb;have zb:=aM (hbox);have zl:=gE (w:=w) hg (qB1 HB zc);have zf:=zl;replace HB:=bS (qB1 HB zc) hb;have zd:=nL hg za;have ze:=nG hg za;replace za:=bK za hb;clear hb hbox hg;have hnb9:=zd.out;have hnc9:=ze.out;have yq:=blk3 za.out)|((with_reducible refine gC 49 rfl ?_);refine gL 12 Try.func49 #[.agg #[.int .i64 yd,.slice ye ya.length yf,.slice yg yb.length yh]] ?_;(with_reducible refine(fdd.calls k yd _ _ ya _ _ yb true _ ?s1 zj.out ?s3 zu.out A3.out).mono ?_);(case s1=>exact sC zi HB);(case s3=>exact sC zo HB);rintro e w11 ⟨rfl,hb⟩;refine⟨_,rfl,?_⟩;replace za:=bK za hb;replace zb:=bK zb hb;replace HB:=bS (qB2 HB zc zf) hb;have yr:=blk3 za.out)|((with_reducible refine gC 71 rfl ?_);refine gL 19 Try.func71 #[.slice ye ya.length yf,.slice A1 l1.length c1] ?_;(with_reducible refine(fcj.calls k _ _ ya _ _ l1 zq zm _ ?s1 zj.out ?s3 HC1.out A5.out).mono ?_);(case s1=>exact sC zi HB);(case s3=>exact sC HR1 HB);rintro e w13 ⟨zw,rfl,ho0,hb⟩;refine⟨_,rfl,?_⟩;have zx:=aM (Kd.R_lower ho0 (below_size (qB2 HB zc zf)));replace za:=bK za hb;replace zb:=bK zb hb;replace HB:=bS (qB2 HB zc zf) hb))
 go_loopg [8,28] k (fun kq v8 v28 w'=>∃ (yi:List Int) (yc:Int),v28=.int .i64 yc∧Aside0 (fcv.l0 kq zq yi l1 (l1.length:Int) yc yd ya yb=some (r1,r2,r3,r4))∧Aside0 (kq≤k)∧Aside0 (Kd.R (Kd.int .i64) 3 w' w.heap.size (fun k_=>some k_≠(v8:Value).ownBlock) zw zq)∧Aside0 (Kd.R (Kd.int .i64) 3 w' w.heap.size (fun k_=>some k_≠(zw:Value).ownBlock) v8 yi)∧Aside0 (w'.heap[zp]?=some (.cells #[.int .i64 yd,(.slice ye ya.length yf),(.slice yg yb.length yh)] 44 (0,0)))∧Aside0 (w'.heap[zg]?=some (.cells #[.int .i64 0,(.slice none 0 0),(.slice none 0 0)] 44 (0,0)))∧Aside0 (Below w.heap.size w w'))
 case atStart=>exact⟨(([]:List Int)),(0),(pF),H',⟨Nat.le_refl _⟩,⟨by(with_reducible repeat(first|apply rA|apply rN|apply rD));exact Kd.R_mono zx.out (fun _ hk=>(by simp[Value.ownBlock]))⟩,⟨pN⟩,⟨pK za.out⟩,⟨pK zb.out⟩,⟨qB2 HB zc zf⟩⟩
 clear H'
 try clear c1
 try clear c4
 try clear zy
 try clear zz
 try clear yq yr
 obtain⟨yi,yc,rfl,HA,HK1,zr,zs,za,zb,HB⟩:=hrel
 cases gk with
 | zero=>exact absurd HA.out (by simp[fcv.l0])
 | succ k1=>?_
 have H:=HA.out
 clear HA
 simp only[fcv.l0] at H
 by_cases c14:yc<(l1.length:Int)
 rotate_left
 ·rw[iN c14] at H
  have ys:=dF c14
  clear c14
  replace H:=oi4 H
  obtain⟨rfl,rfl,rfl,rfl⟩:=H
  have hnb23:=zd.out
  have hnc23:=ze.out
  have hcz24:=blk3 za.out
  obtain⟨yt,yu,yv⟩:=Kd.R_slice zs.out
  subst yv
  obtain⟨yw,yx,yy⟩:=Kd.R_slice zr.out
  subst yy
  have hcz27:=blk3 zb.out
  go_wp2
  refine bodyPost_ret (results_ct rfl _ _ zg 44 #[.int .i64 yd,.slice yw zq.length yx,.slice yt yi.length yu] (0,0) _ rfl (by exact P3 zb) Try.underlying44 rfl (by kernel_rfl)) rfl ?_
  exact⟨_,_,pE,by(with_reducible repeat(first|apply rA|apply rN|apply rD));exact F3 zr zb (fun _ hk=>hk.1),by(with_reducible repeat(first|apply rA|apply rN|apply rD));exact F3 zs zb (fun _ hk=>hk.1),qB2 HB zc zf⟩
 rw[ip c14] at H
 have ys:=dT c14
 clear c14
 by_cases c15:0≤yc
 rotate_left
 ·rw[iN c15] at H
  cases H
 rw[ip c15] at H
 have c15b0:=dT c15
 clear c15
 by_cases c16:yc<(l1.length:Int)
 rotate_left
 ·rw[iN c16] at H
  cases H
 rw[ip c16] at H
 have c16b0:=dT c16
 clear c16
 by_cases c17:0≤(rd l1 yc)
 rotate_left
 ·rw[iN c17] at H
  cases H
 rw[ip c17] at H
 have c17b0:=dT c17
 clear c17
 by_cases c18:(rd l1 yc)<(yb.length:Int)
 rotate_left
 ·rw[iN c18] at H
  cases H
 rw[ip c18] at H
 have c18b0:=dT c18
 clear c18
 by_cases c19:yi.length<17592186044416
 rotate_left
 ·rw[iN c19] at H
  cases H
 rw[ip c19] at H
 have LMc19:=aM c19
 clear c19
 obtain⟨z0,zv⟩:∃ y_:List Int,y_=(yi++[rd yb (rd l1 yc)]):=⟨_,rfl⟩
 replace H:(fcv.l0 k1 zq z0 l1 (l1.length:Int) (wrap64 (yc+1)) yd ya yb)=some (r1,r2,r3,r4):=pH zv H
 have Ny164:=aM zv
 clear zv
 have H':=aM H
 clear H
 obtain⟨ad162,⟨⟩,yj,p162,q162⟩:=zI HR1.out yc
 replace yj:=zW HB yj
 have hnb20:=zd.out
 have hnc20:=ze.out
 have hcz21:=blk3 za.out
 obtain⟨ad163,⟨⟩,yk,p163,q163⟩:=zI zo.out (rd l1 yc)
 replace yk:=zW HB yk
 go_wp2_with (first|((with_reducible refine gate_builtin (b:=.append) (xs:=#[.tmp 32,.tmp 38]) rfl ?_);at_builtin;refine Kd.R_append (Kd.int .i64) (w0:=w) w.heap.size rfl (.tmp 32) (.tmp 38) 22 3 (.int .i64 0) 8 rfl Try.underlying22 info3 rfl (by decide) (by omega) u8 yi (rd yb (rd l1 yc)) [.int .i64 (rd yb (rd l1 yc))] (fun k_=>some k_≠(zw:Value).ownBlock) (fun _=>False) rfl rfl ?aP (fun _ hk=>hk.elim) ?aF ?aO ?aB ?aS ?aL ?_;(case aP=>exact rfl);(case aB=>exact(qB2 HB zc zf));(case aF=>exact(fun k_ hk=>Kd.fresh' (Kd.R_lt (pR zr.out)) k_ hk));(case aO=>exact(pR zs.out));(case aS=>exact(below_size (qB2 HB zc zf)));(case aL=>have:=LMc19.out;omega);intro v165 w22 ho hb hg hat;rw[← Ny164.out] at ho;replace zr:=aM (Kd.R_after (ok:=(fun _=>True)) (by(with_reducible repeat(first|apply rA|apply rN|apply rD));exact Kd.R_mono zr.out (fun _ hk=>⟨trivial,hk⟩)) hg hat);replace za:=aM (blk_grown (g:=zp) (pK za.out) hg (Kd.R_ne zs.out za.out (by decide)));replace zb:=aM (blk_grown (g:=zg) (pK zb.out) hg (Kd.R_ne zs.out zb.out (by decide)));replace HB:=aM (hb);have HO166:=aM (ho);clear zs;clear ho hb hg hat))
 go_roundg k1
 case measure=>have:=HK1.out;omega
 case rel=>exact⟨(z0),(wrap64 (yc+1)),(pF),H',⟨pO1 HK1⟩,⟨by(with_reducible repeat(first|apply rA|apply rN|apply rD));exact Kd.R_mono zr.out (fun _ hk=>hk.2)⟩,⟨pR HO166.out⟩,⟨pK za.out⟩,⟨pK zb.out⟩,⟨qB2 HB zc zf⟩⟩
def fch.l0:Nat→Int→List Int→Int→Int→Option (Int)
 | 0,_,_,_,_=>none
 | k+1,x3,x9,x10,x11=>if x11<x10 then(if 0≤x11 then(if x11<(x9.length:Int)then(fch.l0 k (wrap64 (x3*(rd x9 x11))) x9 x10 (wrap64 (x11+1)))else(none))else(none))else(some x3)
def fch.f (k:Nat) (l0:List Int):Option (Int):=(fcg.f l0).bind fun za=>(if za=0 then(fch.l0 k 1 l0 (l0.length:Int) 0)else(some 0))
theorem fch.calls (k:Nat)(A0:Option Addr)(c0:Nat)(l0:List Int)(r:Int)(w:World)(hr0:Kd.C (Kd.int .i64) w A0 l0.length l0)(hc0:l0.length≤c0)(h:fch.f k l0=some r) :
  Calls Try.prog 67 #[.slice A0 l0.length c0] w fun e w'=>e=.returned (.int .i64 r)∧Drawn0 w w':=by
 have HR0:=aM hr0
 have HC0:=aM hc0
 clear hr0 hc0
 have H:((fcg.f l0).bind fun za=>(if za=0 then(fch.l0 k 1 l0 (l0.length:Int) 0)else(some 0)))=some r:=h
 clear h
 replace H:=oB H
 obtain⟨za,A20,H⟩:=H
 try dsimp only at H
 have A2:=aM A20
 clear A20
 by_cases c3:za=0
 rotate_left
 ·rw[iN c3] at H
  have zb:=bF c3
  have zc:=nT c3
  obtain rfl:=Option.some.inj H
  go_enter Try.func67,Try.ntmps67
  go_wp2_with (first|((with_reducible refine gC 31 rfl ?_);refine gL 7 Try.func31 #[.slice A0 l0.length c0] ?_;(with_reducible refine(fcg.calls _ _ l0 za _ ?s1 HC0.out A2.out).mono ?_);(case s1=>exact pC HR0.out);rintro e w' ⟨rfl,⟨nd,rfl⟩⟩;refine⟨_,rfl,?_⟩))
  go_ret
  exact⟨pF,pW⟩
 rw[ip c3] at H
 have zb:=bT c3
 have zc:=nF c3
 clear c3
 have H':=aM H
 clear H
 go_enter Try.func67,Try.ntmps67
 go_wp2_with (first|((with_reducible refine gC 31 rfl ?_);refine gL 7 Try.func31 #[.slice A0 l0.length c0] ?_;(with_reducible refine(fcg.calls _ _ l0 za _ ?s1 HC0.out A2.out).mono ?_);(case s1=>exact pC HR0.out);rintro e w' ⟨rfl,⟨nd,rfl⟩⟩;refine⟨_,rfl,?_⟩))
 go_loopg [3,11] k (fun kq v3 v11 w'=>∃ (yb:Int) (ya:Int),v3=.int .i64 yb∧v11=.int .i64 ya∧Aside0 (fch.l0 kq yb l0 (l0.length:Int) ya=some r)∧Aside0 (kq≤k)∧Drawn0 w w')
 case atStart=>exact⟨(1),(0),(pF),(pF),H',⟨Nat.le_refl _⟩,pW⟩
 clear H'
 try clear zb
 try clear zc
 obtain⟨yb,ya,rfl,rfl,HA,HK1,⟨m1,rfl⟩⟩:=hrel
 cases gk with
 | zero=>exact absurd HA.out (by simp[fch.l0])
 | succ k1=>?_
 have H:=HA.out
 clear HA
 simp only[fch.l0] at H
 by_cases c4:ya<(l0.length:Int)
 rotate_left
 ·rw[iN c4] at H
  have yc:=dF c4
  clear c4
  obtain rfl:=Option.some.inj H
  go_wp2
  go_ret
  exact⟨pF,pW⟩
 rw[ip c4] at H
 have yc:=dT c4
 clear c4
 by_cases c5:0≤ya
 rotate_left
 ·rw[iN c5] at H
  cases H
 rw[ip c5] at H
 have c5b0:=dT c5
 clear c5
 by_cases c6:ya<(l0.length:Int)
 rotate_left
 ·rw[iN c6] at H
  cases H
 rw[ip c6] at H
 have c6b0:=dT c6
 clear c6
 have H':=aM H
 clear H
 obtain⟨ad118,⟨⟩,hx118_0,p118,q118⟩:=zI HR0.out ya
 go_wp2
 go_roundg k1
 case measure=>have:=HK1.out;omega
 case rel=>exact⟨(wrap64 (yb*(rd l0 ya))),(wrap64 (ya+1)),(pF),(pF),H',⟨pO1 HK1⟩,pW⟩
def fcl.l0:Nat→List Int→List Int→Int→Int→Option (List Int)
 | 0,_,_,_,_=>none
 | k+1,x0,x3,x4,x5=>if x5 ≥ 0 then(if 0≤x5 then(if x5<(x3.length:Int)then(if x5<(x0.length:Int)then(fcl.l0 k x0 (x3.set (x5:Int).toNat x4) (wrap64 (x4*(rd x0 x5))) (wrap64 (x5-1)))else(none))else(none))else(none))else(some x3)
def fcl.f (k:Nat) (l0:List Int):Option (List Int):=(fcg.f l0).bind fun za=>(if za=0 then(if 0≤(l0.length:Int)then(if((l0.length:Int):Int).toNat≤35184372088832 then(fcl.l0 k l0 (List.replicate ((l0.length:Int):Int).toNat 0) 1 (wrap64 ((l0.length:Int)-1)))else(none))else(none))else(some ([]:List Int)))
theorem fcl.calls (k:Nat)(A0:Option Addr)(c0:Nat)(l0 r:List Int)(w:World)(hr0:Kd.C (Kd.int .i64) w A0 l0.length l0)(hc0:l0.length≤c0)(h:fcl.f k l0=some r) :
  Calls Try.prog 62 #[.slice A0 l0.length c0] w fun e w'=>∃ v0_:Value,e=.returned (v0_)∧Kd.R (Kd.int .i64) 3 w' w.heap.size (fun _=>True) v0_ r∧Below w.heap.size w w':=by
 have HR0:=aM hr0
 have HC0:=aM hc0
 clear hr0 hc0
 have HB:=aM (Below.refl w.heap.size w)
 have H:((fcg.f l0).bind fun za=>(if za=0 then(if 0≤(l0.length:Int)then(if((l0.length:Int):Int).toNat≤35184372088832 then(fcl.l0 k l0 (List.replicate ((l0.length:Int):Int).toNat 0) 1 (wrap64 ((l0.length:Int)-1)))else(none))else(none))else(some ([]:List Int))))=some r:=h
 clear h
 replace H:=oB H
 obtain⟨za,A20,H⟩:=H
 try dsimp only at H
 have A2:=aM A20
 clear A20
 by_cases c3:za=0
 rotate_left
 ·rw[iN c3] at H
  have zg:=bF c3
  have zh:=nT c3
  obtain rfl:=Option.some.inj H
  go_enter Try.func62,Try.ntmps62
  go_wp2_with (first|((with_reducible refine gC 31 rfl ?_);refine gL 7 Try.func31 #[.slice A0 l0.length c0] ?_;(with_reducible refine(fcg.calls _ _ l0 za _ ?s1 HC0.out A2.out).mono ?_);(case s1=>exact pC HR0.out);rintro e w' ⟨rfl,⟨nd,rfl⟩⟩;refine⟨_,rfl,?_⟩))
  go_ret
  exact⟨_,pE,pN,qB HB⟩
 rw[ip c3] at H
 have zg:=bT c3
 have zh:=nF c3
 clear c3
 by_cases c4:0≤(l0.length:Int)
 rotate_left
 ·rw[iN c4] at H
  cases H
 rw[ip c4] at H
 have yf:=eq_true c4
 have yg:=dT c4
 clear c4
 by_cases c5:((l0.length:Int):Int).toNat≤35184372088832
 rotate_left
 ·rw[iN c5] at H
  cases H
 rw[ip c5] at H
 have yh:=eq_true c5
 have yi:=dT c5
 clear c5
 obtain⟨zi,zc⟩:∃ y_:List Int,y_=(List.replicate ((l0.length:Int):Int).toNat 0):=⟨_,rfl⟩
 replace H:(fcl.l0 k l0 zi 1 (wrap64 ((l0.length:Int)-1)))=some r:=pH zc H
 have ze:=aM zc
 clear zc
 have H':=aM H
 clear H
 go_enter Try.func62,Try.ntmps62
 go_wp2_with (first|((with_reducible refine gC 31 rfl ?_);refine gL 7 Try.func31 #[.slice A0 l0.length c0] ?_;(with_reducible refine(fcg.calls _ _ l0 za _ ?s1 HC0.out A2.out).mono ?_);(case s1=>exact pC HR0.out);rintro e w' ⟨rfl,⟨nd,rfl⟩⟩;refine⟨_,rfl,?_⟩)|((with_reducible refine gD 11 rfl ?_);refine Kd.R_make (Kd.int .i64) _ 3 rfl (N:=11) rfl 22 _ _ rfl (l0.length:Int) rfl rfl Try.underlying22 (.int .i64 0) 8 info3 rfl (by decide) (by omega) 0 (ok:=fun _=>True) (okp:=fun _=>True) rfl (fun _ hk=>hk) trivial (of_decide_eq_true pD) (Nat.le_trans (Nat.mul_le_mul_right _ (of_decide_eq_true pD:(l0.length:Int).toNat≤35184372088832)) (by omega)) (Below.refl _ _) (Nat.le_refl _) ?_;intro v113 w6 ho7 hb hg_ hnew_;clear hg_ hnew_;(first|rw[← ze.out] at ho7|(simp only[Int.reduceToNat] at ho7;rw[← ze.out] at ho7));have HO114:=aM (Kd.R_lower ho7 (below_size (qB HB)));replace HB:=bS (qB HB) hb;clear hb ho7))
 go_loopg [4,5] k (fun kq v4 v5 w'=>∃ (yc:List Int) (yb:Int) (ya:Int),v4=.int .i64 yb∧v5=.int .i64 ya∧Aside0 (fcl.l0 kq l0 yc yb ya=some r)∧Aside0 (kq≤k)∧Aside0 (Kd.R (Kd.int .i64) 3 w' w.heap.size (fun _=>True) v113 yc)∧Aside0 (Below w.heap.size w w'))
 case atStart=>exact⟨(zi),(1),(wrap64 ((l0.length:Int)-1)),(pF),(pF),H',⟨Nat.le_refl _⟩,⟨pR HO114.out⟩,⟨qB HB⟩⟩
 clear H'
 try clear zg
 try clear zh
 try clear yf
 try clear yg
 try clear yh
 try clear yi
 obtain⟨yc,yb,ya,rfl,rfl,HA,HK1,zb,HB⟩:=hrel
 cases gk with
 | zero=>exact absurd HA.out (by simp[fcl.l0])
 | succ k1=>?_
 have H:=HA.out
 clear HA
 simp only[fcl.l0] at H
 by_cases c8:ya ≥ 0
 rotate_left
 ·rw[iN c8] at H
  have yj:decide (0≤ya)=false:=decide_eq_false c8
  clear c8
  obtain rfl:=Option.some.inj H
  go_wp2
  go_ret
  exact⟨_,pE,pR zb.out,qB HB⟩
 rw[ip c8] at H
 have yj:decide (0≤ya)=true:=decide_eq_true c8
 clear c8
 by_cases c9:0≤ya
 rotate_left
 ·rw[iN c9] at H
  cases H
 rw[ip c9] at H
 have c9b0:=dT c9
 clear c9
 by_cases c10:ya<(yc.length:Int)
 rotate_left
 ·rw[iN c10] at H
  cases H
 rw[ip c10] at H
 have c10b0:=dT c10
 clear c10
 obtain⟨zf,zd⟩:∃ y_:List Int,y_=(yc.set (ya:Int).toNat yb):=⟨_,rfl⟩
 replace H:(if ya<(l0.length:Int)then(fcl.l0 k1 l0 zf (wrap64 (yb*(rd l0 ya))) (wrap64 (ya-1)))else(none))=some r:=pH zd H
 have Ny115:=aM zd
 clear zd
 by_cases c12:ya<(l0.length:Int)
 rotate_left
 ·rw[iN c12] at H
  cases H
 rw[ip c12] at H
 have c12b0:=dT c12
 clear c12
 have H':=aM H
 clear H
 have yl:0≤(ya:Int):=oD
 have ym:(ya:Int)<((yc.length:Int):Int):=oD
 obtain⟨ye,yk,zj,zk,gl11,cl11,HG11⟩:=Kd.R_form zb.out (by omega)
 (first|cases zj|(injection zj with ea_ en_ ec_;(first|subst ea_|(injection ea_ with ea_;subst ea_));subst ec_;clear en_))
 have GB11:=aM zk
 have GG11:=aM HG11
 clear zk gl11 HG11
 obtain⟨hx11_0,hf11_0⟩:=Kd.R_celln 0 zb.out (ya:Int) yl ym
 have HP13:=Kd.R_putg zb.out (ya:Int) yb
 go_wp2_with (first|((with_reducible refine gate_store (t:=3) (p:=22) rfl ?_);refine store_event (t:=3) (p:=22) (v:=?vo_w14) (w1:=(wr.setCell ⟨ye,(ya:Int).toNat,none⟩ (.int .i64 yb))) ?hg ?ho ?hn ?hr ?_;(case ho=>rfl);(case hg=>rfl);(case hn=>rfl);(case hr=>first|(go_simp;done)|(go_simp;rfl));intro w14 hw;have hg:wr.grownBy w14 (some ye):=(by rw[hw];exact HP13.2);have hp_:Kd.R (Kd.int .i64) 3 w14 w.heap.size (fun _=>True) (.slice (some ⟨ye,0,none⟩) yc.length yk) zf:=(by rw[hw,Ny115.out];exact HP13.1);clear HP13;replace zb:=aM (hp_);replace HB:=aM ((by rw[hw];exact below_set (HB.out) GB11.out:Below w.heap.size w w14));clear hg hw hp_;obtain⟨ad116,⟨⟩,yd,p116,q116⟩:=zI HR0.out ya;replace yd:=zW HB yd))
 go_roundg k1
 case measure=>have:=HK1.out;omega
 case rel=>exact⟨(zf),(wrap64 (yb*(rd l0 ya))),(wrap64 (ya-1)),(pF),(pF),H',⟨pO1 HK1⟩,⟨pR zb.out⟩,⟨qB HB⟩⟩
def fcy.l0:Nat→Int→Int→Int→List Int→List Int→Option (Bool)
 | 0,_,_,_,_,_=>none
 | k+1,x3,x4,zf,zb,zd=>if x4 ≥ 0 then(if 0≤x4 then(if x4<(zb.length:Int)then(if(rd zb x4) > 1 then(if x4<(zd.length:Int)then(if(rd zd x4)=x3 then(fcy.l0 k (wrap64 (x3*(rd zb x4))) (wrap64 (x4-1)) zf zb zd)else(some false))else(none))else(fcy.l0 k (wrap64 (x3*(rd zb x4))) (wrap64 (x4-1)) zf zb zd))else(none))else(none))else(some true)
def fcy.f (k:Nat) (ye:Int)(ya yd:List Int):Option (Bool):=(fdd.f k ye ya yd).bind fun zh=>(if zh=true then(fcy.l0 k 1 (wrap64 ((ya.length:Int)-1)) ye ya yd)else(some false))
theorem fcy.calls (k:Nat) (ye:Int)(yg:Option Addr)(yh:Nat)(ya:List Int)(yi:Option Addr)(yj:Nat)(yd:List Int)(r:Bool)(w:World)(yo:Kd.C (Kd.int .i64) w yg ya.length ya)(yp:ya.length≤yh)(yq:Kd.C (Kd.int .i64) w yi yd.length yd)(yr:yd.length≤yj)(h:fcy.f k ye ya yd=some r) :
  Calls Try.prog 70 #[.agg #[.int .i64 ye,.slice yg ya.length yh,.slice yi yd.length yj]] w fun e w'=>e=.returned (.bool r)∧Below w.heap.size w w':=by
 have hu44:=Try.underlying44
 have ze:=aM yo
 have zj:=aM yp
 clear yo yp
 have zg:=aM yq
 have zk:=aM yr
 clear yq yr
 have HB:=aM (Below.refl w.heap.size w)
 have H:((fdd.f k ye ya yd).bind fun zh=>(if zh=true then(fcy.l0 k 1 (wrap64 ((ya.length:Int)-1)) ye ya yd)else(some false)))=some r:=h
 clear h
 replace H:=oB H
 obtain⟨zh,A20,H⟩:=H
 try dsimp only at H
 have A2:=aM A20
 clear A20
 by_cases c3:zh=true
 rotate_left
 ·replace c3:=Bool.eq_false_iff.mpr c3
  subst c3
  rw[iN fT] at H
  obtain rfl:=Option.some.inj H
  go_enter Try.func70,Try.ntmps70
  go_wp2_with (first|((with_reducible refine gD 1 rfl ?_);refine bX 1 44 #[.int .i64 ye,.slice yg ya.length yh,.slice yi yd.length yj] ?_;intro zl hg w17 hbox hb;have za:=aM (hbox);have zi:=gE (w:=w) hg (qB HB);have zc:=zi;replace HB:=bS (qB HB) hb;clear hb hbox hg;have hcz18:=blk3 za.out)|((with_reducible refine gC 49 rfl ?_);refine gL 6 Try.func49 #[.agg #[.int .i64 ye,.slice yg ya.length yh,.slice yi yd.length yj]] ?_;(with_reducible refine(fdd.calls k ye _ _ ya _ _ yd false _ ?s1 zj.out ?s3 zk.out A2.out).mono ?_);(case s1=>exact sC ze HB);(case s3=>exact sC zg HB);rintro e w19 ⟨rfl,hb⟩;refine⟨_,rfl,?_⟩;replace za:=bK za hb;replace HB:=bS (qB1 HB zc) hb))
  go_ret
  exact⟨pE,qB1 HB zc⟩
 subst c3
 rw[ip rfl] at H
 have H':=aM H
 clear H
 go_enter Try.func70,Try.ntmps70
 go_wp2_with (first|((with_reducible refine gD 1 rfl ?_);refine bX 1 44 #[.int .i64 ye,.slice yg ya.length yh,.slice yi yd.length yj] ?_;intro zl hg w4 hbox hb;have za:=aM (hbox);have zi:=gE (w:=w) hg (qB HB);have zc:=zi;replace HB:=bS (qB HB) hb;clear hb hbox hg;have hcz5:=blk3 za.out)|((with_reducible refine gC 49 rfl ?_);refine gL 6 Try.func49 #[.agg #[.int .i64 ye,.slice yg ya.length yh,.slice yi yd.length yj]] ?_;(with_reducible refine(fdd.calls k ye _ _ ya _ _ yd true _ ?s1 zj.out ?s3 zk.out A2.out).mono ?_);(case s1=>exact sC ze HB);(case s3=>exact sC zg HB);rintro e w6 ⟨rfl,hb⟩;refine⟨_,rfl,?_⟩;replace za:=bK za hb;replace HB:=bS (qB1 HB zc) hb;have hcz7:=blk3 za.out))
 go_loopg [3,4] k (fun kq v3 v4 w'=>∃ (yn:Int) (yb:Int),v3=.int .i64 yn∧v4=.int .i64 yb∧Aside0 (fcy.l0 kq yn yb ye ya yd=some r)∧Aside0 (kq≤k)∧Aside0 (w'.heap[zl]?=some (.cells #[.int .i64 ye,(.slice yg ya.length yh),(.slice yi yd.length yj)] 44 (0,0)))∧Aside0 (Below w.heap.size w w'))
 case atStart=>exact⟨(1),(wrap64 ((ya.length:Int)-1)),(pF),(pF),H',⟨Nat.le_refl _⟩,⟨pK za.out⟩,⟨qB1 HB zc⟩⟩
 clear H'
 try clear c3
 try clear hcz5 hcz7
 obtain⟨yn,yb,rfl,rfl,HA,HK1,za,HB⟩:=hrel
 cases gk with
 | zero=>exact absurd HA.out (by simp[fcy.l0])
 | succ k1=>?_
 have H:=HA.out
 clear HA
 simp only[fcy.l0] at H
 by_cases c8:yb ≥ 0
 rotate_left
 ·rw[iN c8] at H
  have y0:decide (0≤yb)=false:=decide_eq_false c8
  clear c8
  obtain rfl:=Option.some.inj H
  go_wp2
  go_ret
  exact⟨pE,qB1 HB zc⟩
 rw[ip c8] at H
 have y0:decide (0≤yb)=true:=decide_eq_true c8
 clear c8
 by_cases c9:0≤yb
 rotate_left
 ·rw[iN c9] at H
  cases H
 rw[ip c9] at H
 have c9b0:=dT c9
 clear c9
 by_cases c10:yb<(ya.length:Int)
 rotate_left
 ·rw[iN c10] at H
  cases H
 rw[ip c10] at H
 have c10b0:=dT c10
 clear c10
 by_cases c11:(rd ya yb) > 1
 rotate_left
 ·rw[iN c11] at H
  have ys:decide (1<(rd ya yb))=false:=decide_eq_false c11
  clear c11
  have H':=aM H
  clear H
  have hcz16:=blk3 za.out
  obtain⟨yk,⟨⟩,yc,yt,yu⟩:=zI ze.out yb
  replace yc:=zW HB yc
  obtain⟨yv,y1,yl,p124,q124⟩:=zI ze.out yb
  obtain rfl:yk=yv:=(by injection y1)
  replace yl:=zW HB yl
  go_wp2
  go_roundg k1
  case measure=>have:=HK1.out;omega
  case rel=>exact⟨(wrap64 (yn*(rd ya yb))),(wrap64 (yb-1)),(pF),(pF),H',⟨pO1 HK1⟩,⟨pK za.out⟩,⟨qB1 HB zc⟩⟩
 rw[ip c11] at H
 have ys:decide (1<(rd ya yb))=true:=decide_eq_true c11
 clear c11
 by_cases c12:yb<(yd.length:Int)
 rotate_left
 ·rw[iN c12] at H
  cases H
 rw[ip c12] at H
 have c12b0:=dT c12
 clear c12
 by_cases c13:(rd yd yb)=yn
 rotate_left
 ·rw[iN c13] at H
  have yw:=bF c13
  have yx:=nT c13
  obtain rfl:=Option.some.inj H
  have hcz15:=blk3 za.out
  obtain⟨yk,⟨⟩,yc,yt,yu⟩:=zI ze.out yb
  replace yc:=zW HB yc
  obtain⟨yy,⟨⟩,yf,y2,y3⟩:=zI zg.out yb
  replace yf:=zW HB yf
  go_wp2
  go_ret
  exact⟨pE,qB1 HB zc⟩
 rw[ip c13] at H
 have yw:=bT c13
 have yx:=nF c13
 clear c13
 have H':=aM H
 clear H
 have hcz14:=blk3 za.out
 obtain⟨yk,⟨⟩,yc,yt,yu⟩:=zI ze.out yb
 replace yc:=zW HB yc
 obtain⟨yy,⟨⟩,yf,y2,y3⟩:=zI zg.out yb
 replace yf:=zW HB yf
 obtain⟨yz,y4,ym,p123,q123⟩:=zI ze.out yb
 obtain rfl:yk=yz:=(by injection y4)
 replace ym:=zW HB ym
 go_wp2
 go_roundg k1
 case measure=>have:=HK1.out;omega
 case rel=>exact⟨(wrap64 (yn*(rd ya yb))),(wrap64 (yb-1)),(pF),(pF),H',⟨pO1 HK1⟩,⟨pK za.out⟩,⟨qB1 HB zc⟩⟩
def fcw.f (k:Nat) (yb:Int)(ya yc l1:List Int):Option (Int×List Int×List Int×Int):=(fdd.f k yb ya yc).bind fun zu=>(if zu=true then((fcg.f l1).bind fun zk=>(if zk=0 then((fch.f k l1).bind fun zn=>((fch.f k ya).bind fun zo=>(if zn=zo then((fcy.f k yb ya yc).bind fun zv=>(if zv=true then((fcn.f l1).bind fun zs=>((fcl.f k l1).bind fun zt=>(some (yb,zs,zt,0))))else(some (0,([]:List Int),([]:List Int),19))))else(some (0,([]:List Int),([]:List Int),8)))))else(some (0,([]:List Int),([]:List Int),zk))))else(some (0,([]:List Int),([]:List Int),1)))
def fcw.T10:TT:=(true,[([],[]),([0],[0]),([],[]),([2],[2]),([],[]),([4,3],[4]),([1,3,5],[1,3,5]),([6,5,0,1,2,3,4,5,6],[6]),([7,0,1,2,3,4,5,6,7],[])])
def fcw.B10:List Nat:=[0,1,0,4,0,28,63,127,255]
theorem fcw.tab10:rtab .any (opsOf Try.f43 10)=fcw.T10:=by kernel_rfl
theorem fcw.bits10:waitsOk fcw.T10.2 fcw.B10=true:=by kernel_rfl
theorem fcw.calls (k:Nat) (yb:Int)(yd:Option Addr)(ye:Nat)(ya:List Int)(yf:Option Addr)(yg:Nat)(yc:List Int)(A1:Option Addr)(c1:Nat)(l1:List Int)(r1:Int)(r2 r3:List Int)(r4:Int)(w:World)(yh:Kd.C (Kd.int .i64) w yd ya.length ya)(yi:ya.length≤ye)(yj:Kd.C (Kd.int .i64) w yf yc.length yc)(yk:yc.length≤yg)(hr1:Kd.C (Kd.int .i64) w A1 l1.length l1)(hc1:l1.length≤c1)(h:fcw.f k yb ya yc l1=some (r1,r2,r3,r4)) :
  Calls Try.prog 43 #[.agg #[.int .i64 yb,.slice yd ya.length ye,.slice yf yc.length yg],.slice A1 l1.length c1] w fun e w'=>∃ v1_ v2_:Value,e=.returned (.tuple #[.agg #[.int .i64 r1,v1_,v2_],.int .i64 r4])∧Kd.R (Kd.int .i64) 3 w' w.heap.size (fun k_=>some k_≠(v2_:Value).ownBlock) v1_ r2∧Kd.R (Kd.int .i64) 3 w' w.heap.size (fun k_=>some k_≠(v1_:Value).ownBlock) v2_ r3∧Below w.heap.size w w':=by
 have hu44:=Try.underlying44
 have zi:=aM yh
 have zj:=aM yi
 clear yh yi
 have zp:=aM yj
 have zq:=aM yk
 clear yj yk
 have HR1:=aM hr1
 have HC1:=aM hc1
 clear hr1 hc1
 have HB:=aM (Below.refl w.heap.size w)
 have H:((fdd.f k yb ya yc).bind fun zu=>(if zu=true then((fcg.f l1).bind fun zk=>(if zk=0 then((fch.f k l1).bind fun zn=>((fch.f k ya).bind fun zo=>(if zn=zo then((fcy.f k yb ya yc).bind fun zv=>(if zv=true then((fcn.f l1).bind fun zs=>((fcl.f k l1).bind fun zt=>(some (yb,zs,zt,0))))else(some (0,([]:List Int),([]:List Int),19))))else(some (0,([]:List Int),([]:List Int),8)))))else(some (0,([]:List Int),([]:List Int),zk))))else(some (0,([]:List Int),([]:List Int),1))))=some (r1,r2,r3,r4):=h
 clear h
 replace H:=oB H
 obtain⟨zu,A30,H⟩:=H
 try dsimp only at H
 have A3:=aM A30
 clear A30
 by_cases c4:zu=true
 rotate_left
 ·replace c4:=Bool.eq_false_iff.mpr c4
  subst c4
  rw[iN fT] at H
  replace H:=oi4 H
  obtain⟨rfl,rfl,rfl,rfl⟩:=H
  go_enter Try.func43,Try.ntmps43
  go_wp2_with (first|((with_reducible refine gD 2 rfl ?_);refine bX 2 44 #[.int .i64 yb,.slice yd ya.length ye,.slice yf yc.length yg] ?_;intro zh hg w52 hbox hb;have za:=aM (hbox);have zl:=gE (w:=w) hg (qB HB);have zd:=zl;replace HB:=bS (qB HB) hb;clear hb hbox hg)|((with_reducible refine gD 4 rfl ?_);refine bX 4 44 #[.int .i64 0,.slice none 0 0,.slice none 0 0] ?_;intro zg hg w53 hbox hb;have zb:=aM (hbox);have zm:=gE (w:=w) hg (qB1 HB zd);have ze:=zm;replace HB:=bS (qB1 HB zd) hb;have zc:=nL hg za;have zf:=nG hg za;replace za:=bK za hb;clear hb hbox hg;have hnb54:=zc.out;have hnc54:=zf.out;have hcz55:=blk3 za.out)|((with_reducible refine gC 49 rfl ?_);refine gL 8 Try.func49 #[.agg #[.int .i64 yb,.slice yd ya.length ye,.slice yf yc.length yg]] ?_;(with_reducible refine(fdd.calls k yb _ _ ya _ _ yc false _ ?s1 zj.out ?s3 zq.out A3.out).mono ?_);(case s1=>exact sC zi HB);(case s3=>exact sC zp HB);rintro e w56 ⟨rfl,hb⟩;refine⟨_,rfl,?_⟩;replace za:=bK za hb;replace zb:=bK zb hb;replace HB:=bS (qB2 HB zd ze) hb;have hcz57:=blk3 zb.out))
  refine bodyPost_ret (results_ct rfl _ _ zg 44 #[.int .i64 0,.slice none 0 0,.slice none 0 0] (0,0) _ rfl (by exact P3 zb) Try.underlying44 rfl (by kernel_rfl)) rfl ?_
  exact⟨_,_,pE,pN,pN,qB2 HB zd ze⟩
 subst c4
 rw[ip rfl] at H
 replace H:=oB H
 obtain⟨zk,A50,H⟩:=H
 try dsimp only at H
 have A5:=aM A50
 clear A50
 by_cases c6:zk=0
 rotate_left
 ·rw[iN c6] at H
  have yl:=bF c6
  have ym:=nT c6
  replace H:=oi4 H
  obtain⟨rfl,rfl,rfl,rfl⟩:=H
  go_enter Try.func43,Try.ntmps43
  go_wp2_with (first|((with_reducible refine gD 2 rfl ?_);refine bX 2 44 #[.int .i64 yb,.slice yd ya.length ye,.slice yf yc.length yg] ?_;intro zh hg w46 hbox hb;have za:=aM (hbox);have zl:=gE (w:=w) hg (qB HB);have zd:=zl;replace HB:=bS (qB HB) hb;clear hb hbox hg)|((with_reducible refine gD 4 rfl ?_);refine bX 4 44 #[.int .i64 0,.slice none 0 0,.slice none 0 0] ?_;intro zg hg w47 hbox hb;have zb:=aM (hbox);have zm:=gE (w:=w) hg (qB1 HB zd);have ze:=zm;replace HB:=bS (qB1 HB zd) hb;have zc:=nL hg za;have zf:=nG hg za;replace za:=bK za hb;clear hb hbox hg;have hnb48:=zc.out;have hnc48:=zf.out;have hcz49:=blk3 za.out)|((with_reducible refine gC 49 rfl ?_);refine gL 8 Try.func49 #[.agg #[.int .i64 yb,.slice yd ya.length ye,.slice yf yc.length yg]] ?_;(with_reducible refine(fdd.calls k yb _ _ ya _ _ yc true _ ?s1 zj.out ?s3 zq.out A3.out).mono ?_);(case s1=>exact sC zi HB);(case s3=>exact sC zp HB);rintro e w50 ⟨rfl,hb⟩;refine⟨_,rfl,?_⟩;replace za:=bK za hb;replace zb:=bK zb hb;replace HB:=bS (qB2 HB zd ze) hb)|((with_reducible refine gC 31 rfl ?_);refine gL 12 Try.func31 #[.slice A1 l1.length c1] ?_;(with_reducible refine(fcg.calls _ _ l1 zk _ ?s1 HC1.out A5.out).mono ?_);(case s1=>exact sC HR1 HB);rintro e w' ⟨rfl,⟨nd,rfl⟩⟩;refine⟨_,rfl,?_⟩;(try (rw[drewN_self w50];generalize hq_:World.drewN w50 _=w50;have n0_:Aside0 (w50.heap[zh]?=some (.cells #[.int .i64 yb,.slice yd ya.length ye,.slice yf yc.length yg] 44 (0,0))):=⟨by rw[← hq_];exact(pK za.out)⟩;have n1_:Aside0 (w50.heap[zg]?=some (.cells #[.int .i64 0,.slice none 0 0,.slice none 0 0] 44 (0,0))):=⟨by rw[← hq_];exact(pK zb.out)⟩;have n2_:Aside0 (Below w.heap.size w w50):=⟨by rw[← hq_];exact(qB2 HB zd ze)⟩;clear za zb HB hq_;have za:=n0_;have zb:=n1_;have HB:=n2_;clear n0_ n1_ n2_));have hcz51:=blk3 zb.out))
  refine bodyPost_ret (results_ct rfl _ _ zg 44 #[.int .i64 0,.slice none 0 0,.slice none 0 0] (0,0) _ rfl (by exact P3 zb) Try.underlying44 rfl (by kernel_rfl)) rfl ?_
  exact⟨_,_,pE,pN,pN,qB2 HB zd ze⟩
 rw[ip c6] at H
 have yl:=bT c6
 have ym:=nF c6
 clear c6
 replace H:=oB H
 obtain⟨zn,A70,H⟩:=H
 try dsimp only at H
 have A7:=aM A70
 clear A70
 replace H:=oB H
 obtain⟨zo,A80,H⟩:=H
 try dsimp only at H
 have A8:=aM A80
 clear A80
 by_cases c9:zn=zo
 rotate_left
 ·rw[iN c9] at H
  have yn:=bF c9
  have yo:=nT c9
  replace H:=oi4 H
  obtain⟨rfl,rfl,rfl,rfl⟩:=H
  go_enter Try.func43,Try.ntmps43
  try go_wp2_with (first|((with_reducible refine gD 2 rfl ?_);refine bX 2 44 #[.int .i64 yb,.slice yd ya.length ye,.slice yf yc.length yg] ?_;intro zh hg w39 hbox hb;have za:=aM (hbox);have zl:=gE (w:=w) hg (qB HB);have zd:=zl;replace HB:=bS (qB HB) hb;clear hb hbox hg)|((with_reducible refine gD 4 rfl ?_);refine bX 4 44 #[.int .i64 0,.slice none 0 0,.slice none 0 0] ?_;intro zg hg w40 hbox hb;have zb:=aM (hbox);have zm:=gE (w:=w) hg (qB1 HB zd);have ze:=zm;replace HB:=bS (qB1 HB zd) hb;have zc:=nL hg za;have zf:=nG hg za;replace za:=bK za hb;clear hb hbox hg;have hnb41:=zc.out;have hnc41:=zf.out;have hcz42:=blk3 za.out)|((with_reducible refine gC 49 rfl ?_);refine gL 8 Try.func49 #[.agg #[.int .i64 yb,.slice yd ya.length ye,.slice yf yc.length yg]] ?_;(with_reducible refine(fdd.calls k yb _ _ ya _ _ yc true _ ?s1 zj.out ?s3 zq.out A3.out).mono ?_);(case s1=>exact sC zi HB);(case s3=>exact sC zp HB);rintro e w43 ⟨rfl,hb⟩;refine⟨_,rfl,?_⟩;replace za:=bK za hb;replace zb:=bK zb hb;replace HB:=bS (qB2 HB zd ze) hb)|((with_reducible refine gC 31 rfl ?_);refine gL 12 Try.func31 #[.slice A1 l1.length c1] ?_;(with_reducible refine(fcg.calls _ _ l1 zk _ ?s1 HC1.out A5.out).mono ?_);(case s1=>exact sC HR1 HB);rintro e w' ⟨rfl,⟨nd,rfl⟩⟩;refine⟨_,rfl,?_⟩;(try (rw[drewN_self w43];generalize hq_:World.drewN w43 _=w43;have n0_:Aside0 (w43.heap[zh]?=some (.cells #[.int .i64 yb,.slice yd ya.length ye,.slice yf yc.length yg] 44 (0,0))):=⟨by rw[← hq_];exact(pK za.out)⟩;have n1_:Aside0 (w43.heap[zg]?=some (.cells #[.int .i64 0,.slice none 0 0,.slice none 0 0] 44 (0,0))):=⟨by rw[← hq_];exact(pK zb.out)⟩;have n2_:Aside0 (Below w.heap.size w w43):=⟨by rw[← hq_];exact(qB2 HB zd ze)⟩;clear za zb HB hq_;have za:=n0_;have zb:=n1_;have HB:=n2_;clear n0_ n1_ n2_))))
  replace za:=aM (blk_drew za.out)
  replace zb:=aM (blk_drew zb.out)
  replace HB:=aM (below_drew1 HB.out)
  refine start_ (n:=6) (S:=fun w'=>w'.cell? ⟨zh,0,none⟩=some (.int .i64 yb)∧w'.cell? ⟨zh,1,none⟩=some (.slice yd ya.length ye)∧w'.cell? ⟨zh,2,none⟩=some (.slice yf yc.length yg)) (ds:=[]) (bm 6 0) (by kernel_rfl) rfl rfl (h3 za) (fun hHeld=>?_)
  generalize w43.drew=w44 at za zb HB hHeld ⊢
  refine pure_ (i:=0) (N:=some 17) (v:=?_) (a':=?_) (bm 6 1) rfl rfl (by kernel_rfl) (fun _ _ _ h=>h) (Or.inl ⟨by rfl,?_⟩) ?_ ?_
  rotate_left
  ·intro w'
   go_simp
   with_reducible rfl
  rotate_left
  ·simp only[Act.put,sP,i64_w,i32_w]
   rfl
  refine pure_ (i:=2) (N:=some 19) (v:=?_) (a':=?_) (bm 6 5) rfl rfl (by kernel_rfl) (fun _ _ _ h=>h) (Or.inl ⟨by rfl,?_⟩) ?_ ?_
  rotate_left
  ·intro w'
   go_simp
   with_reducible rfl
  rotate_left
  ·simp only[Act.put,sP,i64_w,i32_w]
   rfl
  refine take_ (i:=3) (N:=some 20) (v:=?_) (a':=?_) (bm 6 13) rfl rfl (by kernel_rfl) (fun _ _ _ h=>h) (Or.inl ⟨by rfl,?_⟩) hHeld ?_ ?_
  rotate_left
  ·rintro w' ⟨s0,s1,s2⟩
   go_simp
   with_reducible rfl
  rotate_left
  ·simp only[Act.put,sP,i64_w,i32_w]
   rfl
  refine one_ (i:=1) (N:=some 18) (bm 6 15) rfl rfl (by kernel_rfl) (by decide) (fun K hK=>?_)
  refine gS Try.func67 #[.slice A1 l1.length c1] ?_
  with_reducible refine(fch.calls k _ _ l1 zn _ ?s1 HC1.out A7.out).mono ?_
  (case s1=>exact sC HR1 HB)
  rintro e w' ⟨rfl,⟨nd,rfl⟩⟩
  refine⟨_,rfl,?_⟩
  refine hK.out _ _ (h3 za) (fun hHeld=>?_)
  clear hK K
  refine nM 18 ?_
  refine one_ (i:=4) (N:=some 21) (bm 6 31) rfl rfl (by kernel_rfl) (by decide) (fun K hK=>?_)
  refine gS Try.func67 #[.slice yd ya.length ye] ?_
  with_reducible refine(fch.calls k _ _ ya zo _ ?s1 zj.out A8.out).mono ?_
  (case s1=>exact pC (Kd.C_below zi.out (qB2 HB zd ze)))
  rintro e w' ⟨rfl,⟨nd,rfl⟩⟩
  refine⟨_,rfl,?_⟩
  refine hK.out _ _ (h3 za) (fun hHeld=>?_)
  clear hK K
  refine nM 21 ?_
  refine pure_ (i:=5) (N:=some 22) (v:=?_) (a':=?_) (bm 6 63) rfl rfl (by kernel_rfl) (fun _ _ _ h=>h) (Or.inl ⟨by rfl,?_⟩) ?_ ?_
  rotate_left
  ·intro w'
   go_simp
   with_reducible rfl
  rotate_left
  ·simp only[Act.put,sP,i64_w,i32_w]
   rfl
  refine done_ (by kernel_rfl) ?_
  have hcz45:=blk3 zb.out
  try go_wp2
  refine bodyPost_ret (results_ct rfl _ _ zg 44 #[.int .i64 0,.slice none 0 0,.slice none 0 0] (0,0) _ rfl (by exact P3 zb) Try.underlying44 rfl (by kernel_rfl)) rfl ?_
  exact⟨_,_,pE,pN,pN,qB2 HB zd ze⟩
 rw[ip c9] at H
 have yn:=bT c9
 have yo:=nF c9
 clear c9
 replace H:=oB H
 obtain⟨zv,zx,H⟩:=H
 try dsimp only at H
 have A10:=aM zx
 clear zx
 by_cases c11:zv=true
 rotate_left
 ·replace c11:=Bool.eq_false_iff.mpr c11
  subst c11
  rw[iN fT] at H
  replace H:=oi4 H
  obtain⟨rfl,rfl,rfl,rfl⟩:=H
  go_enter Try.func43,Try.ntmps43
  try go_wp2_with (first|((with_reducible refine gD 2 rfl ?_);refine bX 2 44 #[.int .i64 yb,.slice yd ya.length ye,.slice yf yc.length yg] ?_;intro zh hg w30 hbox hb;have za:=aM (hbox);have zl:=gE (w:=w) hg (qB HB);have zd:=zl;replace HB:=bS (qB HB) hb;clear hb hbox hg)|((with_reducible refine gD 4 rfl ?_);refine bX 4 44 #[.int .i64 0,.slice none 0 0,.slice none 0 0] ?_;intro zg hg w31 hbox hb;have zb:=aM (hbox);have zm:=gE (w:=w) hg (qB1 HB zd);have ze:=zm;replace HB:=bS (qB1 HB zd) hb;have zc:=nL hg za;have zf:=nG hg za;replace za:=bK za hb;clear hb hbox hg;have hnb32:=zc.out;have hnc32:=zf.out;have hcz33:=blk3 za.out)|((with_reducible refine gC 49 rfl ?_);refine gL 8 Try.func49 #[.agg #[.int .i64 yb,.slice yd ya.length ye,.slice yf yc.length yg]] ?_;(with_reducible refine(fdd.calls k yb _ _ ya _ _ yc true _ ?s1 zj.out ?s3 zq.out A3.out).mono ?_);(case s1=>exact sC zi HB);(case s3=>exact sC zp HB);rintro e w34 ⟨rfl,hb⟩;refine⟨_,rfl,?_⟩;replace za:=bK za hb;replace zb:=bK zb hb;replace HB:=bS (qB2 HB zd ze) hb)|((with_reducible refine gC 31 rfl ?_);refine gL 12 Try.func31 #[.slice A1 l1.length c1] ?_;(with_reducible refine(fcg.calls _ _ l1 zk _ ?s1 HC1.out A5.out).mono ?_);(case s1=>exact sC HR1 HB);rintro e w' ⟨rfl,⟨nd,rfl⟩⟩;refine⟨_,rfl,?_⟩;(try (rw[drewN_self w34];generalize hq_:World.drewN w34 _=w34;have n0_:Aside0 (w34.heap[zh]?=some (.cells #[.int .i64 yb,.slice yd ya.length ye,.slice yf yc.length yg] 44 (0,0))):=⟨by rw[← hq_];exact(pK za.out)⟩;have n1_:Aside0 (w34.heap[zg]?=some (.cells #[.int .i64 0,.slice none 0 0,.slice none 0 0] 44 (0,0))):=⟨by rw[← hq_];exact(pK zb.out)⟩;have n2_:Aside0 (Below w.heap.size w w34):=⟨by rw[← hq_];exact(qB2 HB zd ze)⟩;clear za zb HB hq_;have za:=n0_;have zb:=n1_;have HB:=n2_;clear n0_ n1_ n2_))))
  replace za:=aM (blk_drew za.out)
  replace zb:=aM (blk_drew zb.out)
  replace HB:=aM (below_drew1 HB.out)
  refine start_ (n:=6) (S:=fun w'=>w'.cell? ⟨zh,0,none⟩=some (.int .i64 yb)∧w'.cell? ⟨zh,1,none⟩=some (.slice yd ya.length ye)∧w'.cell? ⟨zh,2,none⟩=some (.slice yf yc.length yg)) (ds:=[]) (bm 6 0) (by kernel_rfl) rfl rfl (h3 za) (fun hHeld=>?_)
  generalize w34.drew=w35 at za zb HB hHeld ⊢
  refine pure_ (i:=0) (N:=some 17) (v:=?_) (a':=?_) (bm 6 1) rfl rfl (by kernel_rfl) (fun _ _ _ h=>h) (Or.inl ⟨by rfl,?_⟩) ?_ ?_
  rotate_left
  ·intro w'
   go_simp
   with_reducible rfl
  rotate_left
  ·simp only[Act.put,sP,i64_w,i32_w]
   rfl
  refine pure_ (i:=2) (N:=some 19) (v:=?_) (a':=?_) (bm 6 5) rfl rfl (by kernel_rfl) (fun _ _ _ h=>h) (Or.inl ⟨by rfl,?_⟩) ?_ ?_
  rotate_left
  ·intro w'
   go_simp
   with_reducible rfl
  rotate_left
  ·simp only[Act.put,sP,i64_w,i32_w]
   rfl
  refine take_ (i:=3) (N:=some 20) (v:=?_) (a':=?_) (bm 6 13) rfl rfl (by kernel_rfl) (fun _ _ _ h=>h) (Or.inl ⟨by rfl,?_⟩) hHeld ?_ ?_
  rotate_left
  ·rintro w' ⟨s0,s1,s2⟩
   go_simp
   with_reducible rfl
  rotate_left
  ·simp only[Act.put,sP,i64_w,i32_w]
   rfl
  refine one_ (i:=1) (N:=some 18) (bm 6 15) rfl rfl (by kernel_rfl) (by decide) (fun K hK=>?_)
  refine gS Try.func67 #[.slice A1 l1.length c1] ?_
  with_reducible refine(fch.calls k _ _ l1 zn _ ?s1 HC1.out A7.out).mono ?_
  (case s1=>exact sC HR1 HB)
  rintro e w' ⟨rfl,⟨nd,rfl⟩⟩
  refine⟨_,rfl,?_⟩
  refine hK.out _ _ (h3 za) (fun hHeld=>?_)
  clear hK K
  refine nM 18 ?_
  refine one_ (i:=4) (N:=some 21) (bm 6 31) rfl rfl (by kernel_rfl) (by decide) (fun K hK=>?_)
  refine gS Try.func67 #[.slice yd ya.length ye] ?_
  with_reducible refine(fch.calls k _ _ ya zo _ ?s1 zj.out A8.out).mono ?_
  (case s1=>exact pC (Kd.C_below zi.out (qB2 HB zd ze)))
  rintro e w' ⟨rfl,⟨nd,rfl⟩⟩
  refine⟨_,rfl,?_⟩
  refine hK.out _ _ (h3 za) (fun hHeld=>?_)
  clear hK K
  refine nM 21 ?_
  refine pure_ (i:=5) (N:=some 22) (v:=?_) (a':=?_) (bm 6 63) rfl rfl (by kernel_rfl) (fun _ _ _ h=>h) (Or.inl ⟨by rfl,?_⟩) ?_ ?_
  rotate_left
  ·intro w'
   go_simp
   with_reducible rfl
  rotate_left
  ·simp only[Act.put,sP,i64_w,i32_w]
   rfl
  refine done_ (by kernel_rfl) ?_
  have hcz36:=blk3 za.out
  try go_wp2_with (first|((with_reducible refine gC 70 rfl ?_);refine gL 25 Try.func70 #[.agg #[.int .i64 yb,.slice yd ya.length ye,.slice yf yc.length yg]] ?_;(with_reducible refine(fcy.calls k yb _ _ ya _ _ yc false _ ?s1 zj.out ?s3 zq.out A10.out).mono ?_);(case s1=>exact pC (Kd.C_below zi.out (qB2 HB zd ze)));(case s3=>exact pC (Kd.C_below zp.out (qB2 HB zd ze)));rintro e w37 ⟨rfl,hb⟩;refine⟨_,rfl,?_⟩;replace za:=bK za hb;replace zb:=bK zb hb;replace HB:=bS (qB2 HB zd ze) hb;have hcz38:=blk3 zb.out))
  refine bodyPost_ret (results_ct rfl _ _ zg 44 #[.int .i64 0,.slice none 0 0,.slice none 0 0] (0,0) _ rfl (by exact P3 zb) Try.underlying44 rfl (by kernel_rfl)) rfl ?_
  exact⟨_,_,pE,pN,pN,qB2 HB zd ze⟩
 subst c11
 rw[ip rfl] at H
 replace H:=oB H
 obtain⟨zs,zy,H⟩:=H
 try dsimp only at H
 have A12:=aM zy
 clear zy
 replace H:=oB H
 obtain⟨zt,zz,H⟩:=H
 try dsimp only at H
 have A13:=aM zz
 clear zz
 replace H:=oi4 H
 obtain⟨rfl,rfl,rfl,rfl⟩:=H
 go_enter Try.func43,Try.ntmps43
 try go_wp2_with (first|((with_reducible refine gD 2 rfl ?_);refine bX 2 44 #[.int .i64 yb,.slice yd ya.length ye,.slice yf yc.length yg] ?_;intro zh hg w14 hbox hb;have za:=aM (hbox);have zl:=gE (w:=w) hg (qB HB);have zd:=zl;replace HB:=bS (qB HB) hb;clear hb hbox hg)|((with_reducible refine gD 4 rfl ?_);refine bX 4 44 #[.int .i64 0,.slice none 0 0,.slice none 0 0] ?_;intro zg hg w15 hbox hb;have zb:=aM (hbox);have zm:=gE (w:=w) hg (qB1 HB zd);have ze:=zm;replace HB:=bS (qB1 HB zd) hb;have zc:=nL hg za;have zf:=nG hg za;replace za:=bK za hb;clear hb hbox hg;have hnb16:=zc.out;have hnc16:=zf.out;have hcz17:=blk3 za.out)|((with_reducible refine gC 49 rfl ?_);refine gL 8 Try.func49 #[.agg #[.int .i64 yb,.slice yd ya.length ye,.slice yf yc.length yg]] ?_;(with_reducible refine(fdd.calls k yb _ _ ya _ _ yc true _ ?s1 zj.out ?s3 zq.out A3.out).mono ?_);(case s1=>exact sC zi HB);(case s3=>exact sC zp HB);rintro e w18 ⟨rfl,hb⟩;refine⟨_,rfl,?_⟩;replace za:=bK za hb;replace zb:=bK zb hb;replace HB:=bS (qB2 HB zd ze) hb)|((with_reducible refine gC 31 rfl ?_);refine gL 12 Try.func31 #[.slice A1 l1.length c1] ?_;(with_reducible refine(fcg.calls _ _ l1 zk _ ?s1 HC1.out A5.out).mono ?_);(case s1=>exact sC HR1 HB);rintro e w' ⟨rfl,⟨nd,rfl⟩⟩;refine⟨_,rfl,?_⟩;(try (rw[drewN_self w18];generalize hq_:World.drewN w18 _=w18;have n0_:Aside0 (w18.heap[zh]?=some (.cells #[.int .i64 yb,.slice yd ya.length ye,.slice yf yc.length yg] 44 (0,0))):=⟨by rw[← hq_];exact(pK za.out)⟩;have n1_:Aside0 (w18.heap[zg]?=some (.cells #[.int .i64 0,.slice none 0 0,.slice none 0 0] 44 (0,0))):=⟨by rw[← hq_];exact(pK zb.out)⟩;have n2_:Aside0 (Below w.heap.size w w18):=⟨by rw[← hq_];exact(qB2 HB zd ze)⟩;clear za zb HB hq_;have za:=n0_;have zb:=n1_;have HB:=n2_;clear n0_ n1_ n2_))))
 replace za:=aM (blk_drew za.out)
 replace zb:=aM (blk_drew zb.out)
 replace HB:=aM (below_drew1 HB.out)
 refine start_ (n:=6) (S:=fun w'=>w'.cell? ⟨zh,0,none⟩=some (.int .i64 yb)∧w'.cell? ⟨zh,1,none⟩=some (.slice yd ya.length ye)∧w'.cell? ⟨zh,2,none⟩=some (.slice yf yc.length yg)) (ds:=[]) (bm 6 0) (by kernel_rfl) rfl rfl (h3 za) (fun hHeld=>?_)
 generalize w18.drew=w19 at za zb HB hHeld ⊢
 refine pure_ (i:=0) (N:=some 17) (v:=?_) (a':=?_) (bm 6 1) rfl rfl (by kernel_rfl) (fun _ _ _ h=>h) (Or.inl ⟨by rfl,?_⟩) ?_ ?_
 rotate_left
 ·intro w'
  go_simp
  with_reducible rfl
 rotate_left
 ·simp only[Act.put,sP,i64_w,i32_w]
  rfl
 refine pure_ (i:=2) (N:=some 19) (v:=?_) (a':=?_) (bm 6 5) rfl rfl (by kernel_rfl) (fun _ _ _ h=>h) (Or.inl ⟨by rfl,?_⟩) ?_ ?_
 rotate_left
 ·intro w'
  go_simp
  with_reducible rfl
 rotate_left
 ·simp only[Act.put,sP,i64_w,i32_w]
  rfl
 refine take_ (i:=3) (N:=some 20) (v:=?_) (a':=?_) (bm 6 13) rfl rfl (by kernel_rfl) (fun _ _ _ h=>h) (Or.inl ⟨by rfl,?_⟩) hHeld ?_ ?_
 rotate_left
 ·rintro w' ⟨s0,s1,s2⟩
  go_simp
  with_reducible rfl
 rotate_left
 ·simp only[Act.put,sP,i64_w,i32_w]
  rfl
 refine one_ (i:=1) (N:=some 18) (bm 6 15) rfl rfl (by kernel_rfl) (by decide) (fun K hK=>?_)
 refine gS Try.func67 #[.slice A1 l1.length c1] ?_
 with_reducible refine(fch.calls k _ _ l1 zn _ ?s1 HC1.out A7.out).mono ?_
 (case s1=>exact sC HR1 HB)
 rintro e w' ⟨rfl,⟨nd,rfl⟩⟩
 refine⟨_,rfl,?_⟩
 refine hK.out _ _ (h3 za) (fun hHeld=>?_)
 clear hK K
 refine nM 18 ?_
 refine one_ (i:=4) (N:=some 21) (bm 6 31) rfl rfl (by kernel_rfl) (by decide) (fun K hK=>?_)
 refine gS Try.func67 #[.slice yd ya.length ye] ?_
 with_reducible refine(fch.calls k _ _ ya zo _ ?s1 zj.out A8.out).mono ?_
 (case s1=>exact pC (Kd.C_below zi.out (qB2 HB zd ze)))
 rintro e w' ⟨rfl,⟨nd,rfl⟩⟩
 refine⟨_,rfl,?_⟩
 refine hK.out _ _ (h3 za) (fun hHeld=>?_)
 clear hK K
 refine nM 21 ?_
 refine pure_ (i:=5) (N:=some 22) (v:=?_) (a':=?_) (bm 6 63) rfl rfl (by kernel_rfl) (fun _ _ _ h=>h) (Or.inl ⟨by rfl,?_⟩) ?_ ?_
 rotate_left
 ·intro w'
  go_simp
  with_reducible rfl
 rotate_left
 ·simp only[Act.put,sP,i64_w,i32_w]
  rfl
 refine done_ (by kernel_rfl) ?_
 have hcz20:=blk3 za.out
 try go_wp2_with (first|((with_reducible refine gC 70 rfl ?_);refine gL 25 Try.func70 #[.agg #[.int .i64 yb,.slice yd ya.length ye,.slice yf yc.length yg]] ?_;(with_reducible refine(fcy.calls k yb _ _ ya _ _ yc true _ ?s1 zj.out ?s3 zq.out A10.out).mono ?_);(case s1=>exact pC (Kd.C_below zi.out (qB2 HB zd ze)));(case s3=>exact pC (Kd.C_below zp.out (qB2 HB zd ze)));rintro e w21 ⟨rfl,hb⟩;refine⟨_,rfl,?_⟩;replace za:=bK za hb;replace zb:=bK zb hb;replace HB:=bS (qB2 HB zd ze) hb))
 replace za:=aM (blk_drew za.out)
 replace zb:=aM (blk_drew zb.out)
 replace HB:=aM (below_drew1 HB.out)
 refine sT 9 [] (fun w'=>w'.cell? ⟨zh,0,none⟩=some (.int .i64 yb)∧w'.cell? ⟨zh,1,none⟩=some (.slice yd ya.length ye)∧w'.cell? ⟨zh,2,none⟩=some (.slice yf yc.length yg)) fcw.tab10 fcw.bits10 (h3 za) (fun hHeld HT_ HW_=>?_)
 generalize w21.drew=w22 at za zb HB hHeld ⊢
 refine pQ 0 28 9 1 HT_ ?_
 refine pQ 2 30 9 5 HT_ ?_
 refine pQ 4 32 9 21 HT_ ?_
 refine pU3 1 29 9 23 HT_ HW_ hHeld ?_
 refine oN 3 31 9 31 HT_ (fun K hK=>?_)
 refine gS Try.func42 #[.slice A1 l1.length c1] ?_
 with_reducible refine(fcn.calls _ _ l1 zs _ ?s1 HC1.out A12.out).mono ?_
 (case s1=>exact sC HR1 HB)
 rintro e w23 ⟨v133,rfl,ho0,hb⟩
 refine⟨_,rfl,?_⟩
 have zr:=aM (Kd.R_lower ho0 (below_size (qB2 HB zd ze)))
 replace za:=bK za hb
 replace zb:=bK zb hb
 replace HB:=bS (qB2 HB zd ze) hb
 refine hK.out _ _ (h3 za) (fun hHeld=>?_)
 clear hK K
 refine nM 31 ?_
 refine oN 5 33 9 63 HT_ (fun K hK=>?_)
 refine gS Try.func62 #[.slice A1 l1.length c1] ?_
 with_reducible refine(fcl.calls k _ _ l1 zt _ ?s1 HC1.out A13.out).mono ?_
 (case s1=>exact sC HR1 HB)
 rintro e w24 ⟨v136,rfl,ho0,hb⟩
 refine⟨_,rfl,?_⟩
 have zw:=aM (Kd.R_lower (Kd.R_new' ho0 (Kd.R_lt (pR zr.out))) (below_size (qB2 HB zd ze)))
 replace zr:=eR zr ho0 hb
 replace za:=bK za hb
 replace zb:=bK zb hb
 replace HB:=bS (qB2 HB zd ze) hb
 obtain⟨yp,yq,z0⟩:=Kd.R_slice zw.out
 (first|subst z0|(injection z0 with f1_ f2_ f3_;have f4_:=f1_.symm;have f5_:=f3_.symm;clear f1_ f2_ f3_;subst f4_;subst f5_))
 obtain⟨yr,ys,z1⟩:=Kd.R_slice zr.out
 (first|subst z1|(injection z1 with f1_ f2_ f3_;have f4_:=f1_.symm;have f5_:=f3_.symm;clear f1_ f2_ f3_;subst f4_;subst f5_))
 refine hK.out _ _ (h3 za) (fun hHeld=>?_)
 clear hK K
 refine nM 33 ?_
 refine pQ 6 34 9 127 HT_ ?_
 refine one_ (i:=7) (N:=none) (bm 9 255) rfl rfl (one_of HT_.out (by kernel_rfl)) (by decide) (fun K hK=>?_)
 have hs27:w24.cell? ⟨zg,0,none⟩=some (.int .i64 0):=(blk_cell zb.out 0).trans rfl
 have hfs27:=blk_frozen zb.out 0
 have hns27_0:=zc.out
 have hms27_0:=zf.out
 have hs28:w24.cell? ⟨zg,1,none⟩=some (.slice none 0 0):=(blk_cell zb.out 1).trans rfl
 have hfs28:=blk_frozen zb.out 1
 have hns28_0:=zc.out
 have hms28_0:=zf.out
 have hs29:w24.cell? ⟨zg,2,none⟩=some (.slice none 0 0):=(blk_cell zb.out 2).trans rfl
 have hfs29:=blk_frozen zb.out 2
 have hns29_0:=zc.out
 have hms29_0:=zf.out
 refine skip_ (w1:=?_) (by rfl) rfl ?_ ?_
 rotate_left
 ·go_simp
  rfl
 refine hK.out _ _ ⟨((cell_far (p:=⟨zg,_,none⟩) zc.out _).trans (((cell_far (p:=⟨zg,_,none⟩) zc.out _).trans (((cell_far (p:=⟨zg,_,none⟩) zc.out _).trans (hHeld.1)))))),((cell_far (p:=⟨zg,_,none⟩) zc.out _).trans (((cell_far (p:=⟨zg,_,none⟩) zc.out _).trans (((cell_far (p:=⟨zg,_,none⟩) zc.out _).trans (hHeld.2.1)))))),((cell_far (p:=⟨zg,_,none⟩) zc.out _).trans (((cell_far (p:=⟨zg,_,none⟩) zc.out _).trans (((cell_far (p:=⟨zg,_,none⟩) zc.out _).trans (hHeld.2.2))))))⟩ (fun hHeld=>?_)
 clear hK K
 refine pQ 8 5 9 511 HT_ ?_
 refine dN HT_ ?_
 try go_wp2
 refine bodyPost_ret (results_ct rfl _ _ zg 44 #[.int .i64 yb,.slice yr zs.length ys,.slice yp zt.length yq] (0,0) _ rfl (by exact P3 zb) Try.underlying44 rfl (by kernel_rfl)) rfl ?_
 exact⟨_,_,pE,by(with_reducible repeat(first|apply rA|apply rN|apply rD));exact F3 zr zb (fun _ hk=>hk.1.2),by(with_reducible repeat(first|apply rA|apply rN|apply rD));exact F3 zw zb (fun _ hk=>hk.1.2),qB2 HB zd ze⟩
mutual
def fcz.j0:Nat→Int→Int→Int→Int→Bool→Int→List Int→List Int→Option (Int×List Int×List Int×Int)
 | 0,_,_,_,_,_,_,_,_=>none
 | k+1,x1,x2,x3,x4,x27,zt,zn,zr=>if x27=true then(some (0,([]:List Int),([]:List Int),10))else(if 0≤x1 then(if x1<(zn.length:Int)then(if x2<0 then(fcz.j1 k x1 x2 x3 x4 (rd zn x1) true zt zn zr)else(if x2 ≥ (rd zn x1)then(fcz.j1 k x1 x2 x3 x4 (rd zn x1) true zt zn zr)else(if x3<1 then(fcz.j1 k x1 x2 x3 x4 (rd zn x1) true zt zn zr)else(fcz.j1 k x1 x2 x3 x4 (rd zn x1) (decide (x3 > (rd zn x1))) zt zn zr))))else(none))else(none))
def fcz.j1:Nat→Int→Int→Int→Int→Int→Bool→Int→List Int→List Int→Option (Int×List Int×List Int×Int)
 | 0,_,_,_,_,_,_,_,_,_=>none
 | k+1,x1,x2,x3,x4,x12,x49,zt,zn,zr=>if x49=true then(some (0,([]:List Int),([]:List Int),11))else((fdb.f zt zn zr).bind fun bt179=>(if x3 > 1 then(if x4=0 then(fcz.j2 k x1 x2 x3 x4 x12 true zt zn zr bt179.1 bt179.2.1 bt179.2.2)else(if x4 ≥ x12 then(fcz.j2 k x1 x2 x3 x4 x12 true zt zn zr bt179.1 bt179.2.1 bt179.2.2)else(fcz.j2 k x1 x2 x3 x4 x12 (decide (x4≤(wrap64 (-x12)))) zt zn zr bt179.1 bt179.2.1 bt179.2.2)))else(fcz.j3 k x1 x2 x3 zt zn zr bt179.1 bt179.2.1 bt179.2.2)))
def fcz.j3:Nat→Int→Int→Int→Int→List Int→List Int→Int→List Int→List Int→Option (Int×List Int×List Int×Int)
 | 0,_,_,_,_,_,_,_,_,_=>none
 | k+1,x1,x2,x3,zt,zn,zr,z0,z1,zw=>if x2 > 0 then(if 0≤x1 then(if x1<(zr.length:Int)then(if x1<(z1.length:Int)then((some (z1.set (x1:Int).toNat x3:List Int)).bind fun z9=>(if x3=1 then(if x1<(zw.length:Int)then(some (wrap64 (z0+(wrap64 (x2*(rd zr x1)))),z9,(zw.set (x1:Int).toNat 0),0))else(none))else(some (wrap64 (z0+(wrap64 (x2*(rd zr x1)))),z9,zw,0))))else(none))else(none))else(none))else(if 0≤x1 then(if x1<(z1.length:Int)then((some (z1.set (x1:Int).toNat x3:List Int)).bind fun zaa=>(if x3=1 then(if x1<(zw.length:Int)then(some (z0,zaa,(zw.set (x1:Int).toNat 0),0))else(none))else(some (z0,zaa,zw,0))))else(none))else(none))
def fcz.j2:Nat→Int→Int→Int→Int→Int→Bool→Int→List Int→List Int→Int→List Int→List Int→Option (Int×List Int×List Int×Int)
 | 0,_,_,_,_,_,_,_,_,_,_,_,_=>none
 | k+1,x1,x2,x3,x4,x12,x67,zt,zn,zr,z0,z1,zw=>if x67=true then(some (0,([]:List Int),([]:List Int),11))else(if(wrap64 (x2+(wrap64 ((wrap64 (x3-1))*x4))))<0 then(some (0,([]:List Int),([]:List Int),11))else(if(wrap64 (x2+(wrap64 ((wrap64 (x3-1))*x4)))) ≥ x12 then(some (0,([]:List Int),([]:List Int),11))else(if 0≤x1 then(if x1<(zr.length:Int)then(if x1<(zw.length:Int)then(fcz.j3 k x1 x2 x3 zt zn zr z0 z1 (zw.set (x1:Int).toNat (wrap64 ((rd zr x1)*x4))))else(none))else(none))else(none))))
end
def fcz.f (k:Nat) (yc:Int)(yb ya:List Int)(a1 a2 a3 a4:Int):Option (Int×List Int×List Int×Int):=(fdd.f k yc yb ya).bind fun zam=>(if zam=true then(if a1<0 then(fcz.j0 k a1 a2 a3 a4 true yc yb ya)else(fcz.j0 k a1 a2 a3 a4 (decide (a1 ≥ (yb.length:Int))) yc yb ya))else(some (0,([]:List Int),([]:List Int),1)))
def fcz.T15:TT:=(true,[([],[]),([0],[0]),([],[]),([],[]),([3],[3]),([],[]),([4,5],[4,5]),([6],[6]),([],[]),([7,8],[7,8]),([1,2,0,1,2,3,4,5,6,7,8,9],[1,2]),([10,9,0,1,2,3,4,5,6,7,8,9],[9,10])])
def fcz.B15:List Nat:=[0,1,0,0,8,0,56,120,0,504,1023,2047]
theorem fcz.tab15:rtab .any (opsOf Try.f45 15)=fcz.T15:=by kernel_rfl
theorem fcz.bits15:waitsOk fcz.T15.2 fcz.B15=true:=by kernel_rfl
def fcz.T17:TT:=(true,[([],[]),([0],[0]),([],[]),([],[]),([3],[3]),([],[]),([4,5],[4,5]),([6],[6]),([2,7],[2,7]),([1,8],[1,8]),([0,1,2,3,4,5,6,7,8,9],[]),([10,9,0,1,2,3,4,5,6,7,8,9],[9,10])])
def fcz.B17:List Nat:=[0,1,0,0,8,0,56,120,252,511,1023,2047]
theorem fcz.tab17:rtab .any (opsOf Try.f45 17)=fcz.T17:=by kernel_rfl
theorem fcz.bits17:waitsOk fcz.T17.2 fcz.B17=true:=by kernel_rfl
theorem fcz.calls (k:Nat) (yc:Int)(yr:Option Addr)(yf:Nat)(yb:List Int)(yj:Option Addr)(yg:Nat)(ya:List Int)(a1 a2 a3 a4 r1:Int)(r2 r3:List Int)(r4:Int)(w:World)(yx:Kd.C (Kd.int .i64) w yr yb.length yb)(yy:yb.length≤yf)(yz:Kd.C (Kd.int .i64) w yj ya.length ya)(y0:ya.length≤yg)(h:fcz.f k yc yb ya a1 a2 a3 a4=some (r1,r2,r3,r4)) :
  Calls Try.prog 45 #[.agg #[.int .i64 yc,.slice yr yb.length yf,.slice yj ya.length yg],.int .i64 a1,.int .i64 a2,.int .i64 a3,.int .i64 a4] w fun e w'=>∃ v1_ v2_:Value,e=.returned (.tuple #[.agg #[.int .i64 r1,v1_,v2_],.int .i64 r4])∧Kd.R (Kd.int .i64) 3 w' w.heap.size (fun k_=>some k_≠(v2_:Value).ownBlock) v1_ r2∧Kd.R (Kd.int .i64) 3 w' w.heap.size (fun k_=>some k_≠(v1_:Value).ownBlock) v2_ r3∧Below w.heap.size w w':=by
 have hu44:=Try.underlying44
 have zag:=aM yx
 have zan:=aM yy
 clear yx yy
 have z7:=aM yz
 have zao:=aM y0
 clear yz y0
 have HB:=aM (Below.refl w.heap.size w)
 have H:((fdd.f k yc yb ya).bind fun zam=>(if zam=true then(if a1<0 then(fcz.j0 k a1 a2 a3 a4 true yc yb ya)else(fcz.j0 k a1 a2 a3 a4 (decide (a1 ≥ (yb.length:Int))) yc yb ya))else(some (0,([]:List Int),([]:List Int),1))))=some (r1,r2,r3,r4):=h
 clear h
 replace H:=oB H
 obtain⟨zam,A60,H⟩:=H
 try dsimp only at H
 have A6:=aM A60
 clear A60
 by_cases c7:zam=true
 rotate_left
 ·replace c7:=Bool.eq_false_iff.mpr c7
  subst c7
  rw[iN fT] at H
  replace H:=oi4 H
  obtain⟨rfl,rfl,rfl,rfl⟩:=H
  go_enter Try.func45,Try.ntmps45
  go_wp2_with (first|((with_reducible refine gD 5 rfl ?_);(try (refine gate_guard (by rfl) ?_;dsimp only));refine bX 5 44 #[.int .i64 yc,.slice yr yb.length yf,.slice yj ya.length yg] ?_;intro zu hg w124 hbox hb;have zf:=aM (hbox);have zap:=gE (w:=w) hg (qB HB);have zl:=zap;replace HB:=bS (qB HB) hb;clear hb hbox hg)|((with_reducible refine gD 10 rfl ?_);(try (refine gate_guard (by rfl) ?_;dsimp only));refine bX 10 44 #[.int .i64 0,.slice none 0 0,.slice none 0 0] ?_;intro zm hg w125 hbox hb;have ze:=aM (hbox);have zaq:=gE (w:=w) hg (qB1 HB zl);have zp:=zaq;replace HB:=bS (qB1 HB zl) hb;have zj:=nL hg zf;have zk:=nG hg zf;replace zf:=bK zf hb;clear hb hbox hg;have hnb126:=zj.out;have hnc126:=zk.out;have hcz127:=blk3 zf.out)|((with_reducible refine gC 49 rfl ?_);refine gL 16 Try.func49 #[.agg #[.int .i64 yc,.slice yr yb.length yf,.slice yj ya.length yg]] ?_;(with_reducible refine(fdd.calls k yc _ _ yb _ _ ya false _ ?s1 zan.out ?s3 zao.out A6.out).mono ?_);(case s1=>exact sC zag HB);(case s3=>exact sC z7 HB);rintro e w128 ⟨rfl,hb⟩;refine⟨_,rfl,?_⟩;replace zf:=bK zf hb;replace ze:=bK ze hb;replace HB:=bS (qB2 HB zl zp) hb;have hcz129:=blk3 ze.out))
  refine bodyPost_ret (results_ct rfl _ _ zm 44 #[.int .i64 0,.slice none 0 0,.slice none 0 0] (0,0) _ rfl (by exact P3 ze) Try.underlying44 rfl (by kernel_rfl)) rfl ?_
  exact⟨_,_,pE,pN,pN,qB2 HB zl zp⟩
 subst c7
 rw[ip rfl] at H
 have HC8:=aM H
 clear H
 go_enter Try.func45,Try.ntmps45
 go_upto_region 3 with(first|((with_reducible refine gD 5 rfl ?_);(try (refine gate_guard (by rfl) ?_;dsimp only));refine bX 5 44 #[.int .i64 yc,.slice yr yb.length yf,.slice yj ya.length yg] ?_;intro zu hg w9 hbox hb;have zf:=aM (hbox);have zap:=gE (w:=w) hg (qB HB);have zl:=zap;replace HB:=bS (qB HB) hb;clear hb hbox hg)|((with_reducible refine gD 10 rfl ?_);(try (refine gate_guard (by rfl) ?_;dsimp only));refine bX 10 44 #[.int .i64 0,.slice none 0 0,.slice none 0 0] ?_;intro zm hg w10 hbox hb;have ze:=aM (hbox);have zaq:=gE (w:=w) hg (qB1 HB zl);have zp:=zaq;replace HB:=bS (qB1 HB zl) hb;have zj:=nL hg zf;have zk:=nG hg zf;replace zf:=bK zf hb;clear hb hbox hg;have hnb11:=zj.out;have hnc11:=zk.out;have y8:=blk3 zf.out)|((with_reducible refine gC 49 rfl ?_);refine gL 16 Try.func49 #[.agg #[.int .i64 yc,.slice yr yb.length yf,.slice yj ya.length yg]] ?_;(with_reducible refine(fdd.calls k yc _ _ yb _ _ ya true _ ?s1 zan.out ?s3 zao.out A6.out).mono ?_);(case s1=>exact sC zag HB);(case s3=>exact sC z7 HB);rintro e w13 ⟨rfl,hb⟩;refine⟨_,rfl,?_⟩;replace zf:=bK zf hb;replace ze:=bK ze hb;replace HB:=bS (qB2 HB zl zp) hb))
 (try simp only[Act.put,sP])
 go_cut [27] (fun v27 wc=>∃ (kq:Nat) (ys:Bool),v27=.bool ys∧Aside0 (fcz.j0 kq a1 a2 a3 a4 ys yc yb ya=some (r1,r2,r3,r4))∧Aside0 (kq≤k)∧Aside0 (wc.heap[zu]?=some (.cells #[.int .i64 yc,(.slice yr yb.length yf),(.slice yj ya.length yg)] 44 (0,0)))∧Aside0 (wc.heap[zm]?=some (.cells #[.int .i64 0,(.slice none 0 0),(.slice none 0 0)] 44 (0,0)))∧Aside0 (Below w.heap.size w wc))
 case first =>
  have H:=HC8.out
  clear HC8
  by_cases c14:a1<0
  ·rw[ip c14] at H
   have zab:=dT c14
   clear c14
   (first|rw[zab]|(simp only[i64_w,i32_w];rw[zab])|skip)
   have H':=aM H
   clear H
   go_wp2
   go_meet
   case rel=>exact⟨_,(true),(pF),H',⟨pO⟩,⟨pK zf.out⟩,⟨pK ze.out⟩,⟨qB2 HB zl zp⟩⟩
  rw[iN c14] at H
  have zab:=dF c14
  clear c14
  (first|rw[zab]|(simp only[i64_w,i32_w];rw[zab])|skip)
  have H':=aM H
  clear H
  have hnb15:=zj.out
  have hnc15:=zk.out
  have hcz16:=blk3 zf.out
  go_wp2
  go_meet
  case rel=>exact⟨_,(decide (a1 ≥ (yb.length:Int))),(pF),H',⟨pO⟩,⟨pK zf.out⟩,⟨pK ze.out⟩,⟨qB2 HB zl zp⟩⟩
 clear HC8
 try clear c7
 try clear y8
 obtain⟨kq,ys,rfl,HA,HJ7,zf,ze,HB⟩:=hcut
 cases kq with
 | zero=>exact absurd HA.out (by simp[fcz.j0])
 | succ kj7=>?_
 have H:=HA.out
 clear HA
 simp only[fcz.j0] at H
 by_cases c17:ys=true
 ·subst c17
  rw[ip rfl] at H
  replace H:=oi4 H
  obtain⟨rfl,rfl,rfl,rfl⟩:=H
  have hnb18:=zk.out
  have hnc18:=zj.out
  have hcz19:=blk3 ze.out
  go_wp2
  refine bodyPost_ret (results_ct rfl _ _ zm 44 #[.int .i64 0,.slice none 0 0,.slice none 0 0] (0,0) _ rfl (by exact P3 ze) Try.underlying44 rfl (by kernel_rfl)) rfl ?_
  exact⟨_,_,pE,pN,pN,qB2 HB zl zp⟩
 replace c17:=Bool.eq_false_iff.mpr c17
 subst c17
 rw[iN fT] at H
 by_cases c20:0≤a1
 rotate_left
 ·rw[iN c20] at H
  cases H
 rw[ip c20] at H
 have y9:=dT c20
 clear c20
 by_cases c21:a1<(yb.length:Int)
 rotate_left
 ·rw[iN c21] at H
  cases H
 rw[ip c21] at H
 have yaa:=dT c21
 clear c21
 have HC22:=aM H
 clear H
 have hnb23:=zj.out
 have hnc23:=zk.out
 have yab:=blk3 zf.out
 obtain⟨yh,⟨⟩,ym,yaq,yar⟩:=zI zag.out a1
 replace ym:=zW HB ym
 go_upto_region 6 with(fail)
 go_cut [49] (fun v49 wc=>∃ (kq:Nat) (yn:Bool),v49=.bool yn∧Aside0 (fcz.j1 kq a1 a2 a3 a4 (rd yb a1) yn yc yb ya=some (r1,r2,r3,r4))∧Aside0 (kq≤kj7)∧Aside0 (wc.heap[zu]?=some (.cells #[.int .i64 yc,(.slice (some yh) yb.length yf),(.slice yj ya.length yg)] 44 (0,0)))∧Aside0 (wc.heap[zm]?=some (.cells #[.int .i64 0,(.slice none 0 0),(.slice none 0 0)] 44 (0,0)))∧Aside0 (Below w.heap.size w wc))
 case first =>
  have H:=HC22.out
  clear HC22
  by_cases c25:a2<0
  ·rw[ip c25] at H
   have zac:=dT c25
   clear c25
   (first|rw[zac]|(simp only[i64_w,i32_w];rw[zac])|skip)
   have H':=aM H
   clear H
   go_wp2
   go_meet
   case rel=>exact⟨_,(true),(pF),H',⟨pO1 HJ7⟩,⟨pK zf.out⟩,⟨pK ze.out⟩,⟨qB2 HB zl zp⟩⟩
  rw[iN c25] at H
  have zac:=dF c25
  clear c25
  (first|rw[zac]|(simp only[i64_w,i32_w];rw[zac])|skip)
  by_cases c26:a2 ≥ (rd yb a1)
  ·rw[ip c26] at H
   have yac:decide ((rd yb a1)≤a2)=true:=decide_eq_true c26
   clear c26
   have H':=aM H
   clear H
   go_wp2
   go_meet
   case rel=>exact⟨_,(true),(pF),H',⟨pO1 HJ7⟩,⟨pK zf.out⟩,⟨pK ze.out⟩,⟨qB2 HB zl zp⟩⟩
  rw[iN c26] at H
  have yac:decide ((rd yb a1)≤a2)=false:=decide_eq_false c26
  clear c26
  by_cases c27:a3<1
  ·rw[ip c27] at H
   have yad:=dT c27
   clear c27
   have H':=aM H
   clear H
   go_wp2
   go_meet
   case rel=>exact⟨_,(true),(pF),H',⟨pO1 HJ7⟩,⟨pK zf.out⟩,⟨pK ze.out⟩,⟨qB2 HB zl zp⟩⟩
  rw[iN c27] at H
  have yad:=dF c27
  clear c27
  have H':=aM H
  clear H
  go_wp2
  go_meet
  case rel=>exact⟨_,(decide (a3 > (rd yb a1))),(pF),H',⟨pO1 HJ7⟩,⟨pK zf.out⟩,⟨pK ze.out⟩,⟨qB2 HB zl zp⟩⟩
 clear HC22
 try clear c17
 try clear y9
 try clear yaa
 try clear yab
 try clear ym
 try clear yaq
 try clear yar
 obtain⟨kq,yn,rfl,HA,zar,zf,ze,HB⟩:=hcut
 cases kq with
 | zero=>exact absurd HA.out (by simp[fcz.j1])
 | succ za9=>?_
 have H:=HA.out
 clear HA
 simp only[fcz.j1] at H
 by_cases c28:yn=true
 ·subst c28
  rw[ip rfl] at H
  replace H:=oi4 H
  obtain⟨rfl,rfl,rfl,rfl⟩:=H
  have hnb29:=zk.out
  have hnc29:=zj.out
  have hcz30:=blk3 ze.out
  go_wp2
  refine bodyPost_ret (results_ct rfl _ _ zm 44 #[.int .i64 0,.slice none 0 0,.slice none 0 0] (0,0) _ rfl (by exact P3 ze) Try.underlying44 rfl (by kernel_rfl)) rfl ?_
  exact⟨_,_,pE,pN,pN,qB2 HB zl zp⟩
 replace c28:=Bool.eq_false_iff.mpr c28
 subst c28
 rw[iN fT] at H
 replace H:=oB H
 obtain⟨⟨zq,z4,z3⟩,zba,H⟩:=H
 try dsimp only at H
 have A31:=aM zba
 clear zba
 have HC32:=aM H
 clear H
 have hnb33:=zj.out
 have hnc33:=zk.out
 have yae:=blk3 zf.out
 go_upto_if 54 with(first|((with_reducible refine gC 72 rfl ?_);refine gL 52 Try.func72 #[.agg #[.int .i64 yc,.slice (some yh) yb.length yf,.slice yj ya.length yg]] ?_;(with_reducible refine(fdb.calls yc _ _ yb _ _ ya zq z4 z3 _ ?s1 zan.out ?s3 zao.out A31.out).mono ?_);(case s1=>exact sC zag HB);(case s3=>exact sC z7 HB);rintro e w35 ⟨v181,v184,rfl,ho0,ho1,hb⟩;refine⟨_,rfl,?_⟩;have z5:=aM (Kd.R_lower ho0 (below_size (qB2 HB zl zp)));have z6:=aM (Kd.R_lower ho1 (below_size (qB2 HB zl zp)));replace zf:=bK zf hb;replace ze:=bK ze hb;replace HB:=bS (qB2 HB zl zp) hb)|((with_reducible refine gD 13 rfl ?_);(try (refine gate_guard (by rfl) ?_;dsimp only));refine bX 13 44 #[.int .i64 0,.slice none 0 0,.slice none 0 0] ?_;intro zh hg w36 hbox hb;replace z5:=bR z5 hb;replace z6:=bR z6 hb;have zg:=aM (hbox);have GW186:=gE (w:=w) hg (qB2 HB zl zp);have zx:=GW186;replace HB:=bS (qB2 HB zl zp) hb;have zo:=nL hg zf;have zv:=nG hg zf;replace zf:=bK zf hb;have zi:=nL hg ze;have zs:=nG hg ze;replace ze:=bK ze hb;clear hb hbox hg;have hnb37:=zv.out;have hnc37:=zo.out;have hnb38:=zs.out;have hnc38:=zi.out;have yaf:=blk3 zg.out;obtain⟨zai,zaj,yas⟩:=Kd.R_slice z5.out;subst yas;obtain⟨za0,zak,yat⟩:=Kd.R_slice z6.out;subst yat))
 (try simp only[Act.put,sP])
 go_cut [] (fun wc=>∃ (kq:Nat) (zy:Int) (zc:List Int) (zd:List Int) (u187001:Value) (u187002:Value),Aside0 (fcz.j3 kq a1 a2 a3 yc yb ya zq zc zd=some (r1,r2,r3,r4))∧Aside0 (kq≤za9)∧Aside0 (Kd.R (Kd.int .i64) 3 wc w.heap.size (fun k_=>some k_≠(u187002:Value).ownBlock) u187001 zc)∧Aside0 (Kd.R (Kd.int .i64) 3 wc w.heap.size (fun k_=>some k_≠(u187001:Value).ownBlock) u187002 zd)∧Aside0 (wc.heap[zu]?=some (.cells #[.int .i64 yc,(.slice (some yh) yb.length yf),(.slice yj ya.length yg)] 44 (0,0)))∧Aside0 (wc.heap[zm]?=some (.cells #[.int .i64 zy,(.slice none 0 0),(.slice none 0 0)] 44 (0,0)))∧Aside0 (wc.heap[zh]?=some (.cells #[.int .i64 zq,u187001,u187002] 44 (0,0)))∧Aside0 (Below w.heap.size w wc))
 case first =>
  have H:=HC32.out
  clear HC32
  by_cases c42:a3 > 1
  rotate_left
  ·rw[iN c42] at H
   have z8:decide (1<a3)=false:=decide_eq_false c42
   clear c42
   (first|rw[z8]|(simp only[i64_w,i32_w];rw[z8])|skip)
   have H':=aM H
   clear H
   go_wp2
   go_meet
   case rel=>exact⟨_,(0),(z4),(z3),(.slice zai z4.length zaj),(.slice za0 z3.length zak),H',⟨pO2 HJ7 zar⟩,⟨by(with_reducible repeat(first|apply rA|apply rN|apply rD));exact F3 z5 zg (fun _ hk=>hk.1)⟩,⟨by(with_reducible repeat(first|apply rA|apply rN|apply rD));exact F3 z6 zg (fun _ hk=>hk.1)⟩,⟨by refine B3 zo ?_;exact zf.out⟩,⟨by refine B3 zi ?_;exact ze.out⟩,⟨by exact P3 zg⟩,⟨qB3 HB zl zp zx⟩⟩
  rw[ip c42] at H
  have z8:decide (1<a3)=true:=decide_eq_true c42
  clear c42
  (first|rw[z8]|(simp only[i64_w,i32_w];rw[z8])|skip)
  have HC43:=aM H
  clear H
  go_upto_region 10 with(fail)
  go_cut [67] (fun v67 wc=>∃ (kq:Nat) (yo:Bool),v67=.bool yo∧Aside0 (fcz.j2 kq a1 a2 a3 a4 (rd yb a1) yo yc yb ya zq z4 z3=some (r1,r2,r3,r4))∧Aside0 (kq≤za9)∧Aside0 (Kd.R (Kd.int .i64) 3 wc w.heap.size (fun k_=>some k_≠((.slice za0 z3.length zak):Value).ownBlock) (.slice zai z4.length zaj) z4)∧Aside0 (Kd.R (Kd.int .i64) 3 wc w.heap.size (fun k_=>some k_≠((.slice zai z4.length zaj):Value).ownBlock) (.slice za0 z3.length zak) z3)∧Aside0 (wc.heap[zu]?=some (.cells #[.int .i64 yc,(.slice (some yh) yb.length yf),(.slice yj ya.length yg)] 44 (0,0)))∧Aside0 (wc.heap[zm]?=some (.cells #[.int .i64 0,(.slice none 0 0),(.slice none 0 0)] 44 (0,0)))∧Aside0 (wc.heap[zh]?=some (.cells #[.int .i64 zq,(.slice zai z4.length zaj),(.slice za0 z3.length zak)] 44 (0,0)))∧Aside0 (Below w.heap.size w wc))
  case first =>
   have H:=HC43.out
   clear HC43
   by_cases c44:a4=0
   ·rw[ip c44] at H
    have zad:=bT c44
    have yag:=nF c44
    clear c44
    (first|rw[zad]|(simp only[i64_w,i32_w];rw[zad])|skip)
    have H':=aM H
    clear H
    go_wp2
    go_meet
    case rel=>exact⟨_,(true),(pF),H',⟨pO2 HJ7 zar⟩,⟨by(with_reducible repeat(first|apply rA|apply rN|apply rD));exact F3 z5 zg (fun _ hk=>hk.1)⟩,⟨by(with_reducible repeat(first|apply rA|apply rN|apply rD));exact F3 z6 zg (fun _ hk=>hk.1)⟩,⟨by refine B3 zo ?_;exact zf.out⟩,⟨by refine B3 zi ?_;exact ze.out⟩,⟨by exact P3 zg⟩,⟨qB3 HB zl zp zx⟩⟩
   rw[iN c44] at H
   have zad:=bF c44
   have yag:=nT c44
   (first|rw[zad]|(simp only[i64_w,i32_w];rw[zad])|skip)
   by_cases c45:a4 ≥ (rd yb a1)
   ·rw[ip c45] at H
    have yah:decide ((rd yb a1)≤a4)=true:=decide_eq_true c45
    clear c45
    have H':=aM H
    clear H
    go_wp2
    go_meet
    case rel=>exact⟨_,(true),(pF),H',⟨pO2 HJ7 zar⟩,⟨by(with_reducible repeat(first|apply rA|apply rN|apply rD));exact F3 z5 zg (fun _ hk=>hk.1)⟩,⟨by(with_reducible repeat(first|apply rA|apply rN|apply rD));exact F3 z6 zg (fun _ hk=>hk.1)⟩,⟨by refine B3 zo ?_;exact zf.out⟩,⟨by refine B3 zi ?_;exact ze.out⟩,⟨by exact P3 zg⟩,⟨qB3 HB zl zp zx⟩⟩
   rw[iN c45] at H
   have yah:decide ((rd yb a1)≤a4)=false:=decide_eq_false c45
   clear c45
   have H':=aM H
   clear H
   go_wp2
   go_meet
   case rel=>exact⟨_,(decide (a4≤(wrap64 (-(rd yb a1))))),(pF),H',⟨pO2 HJ7 zar⟩,⟨by(with_reducible repeat(first|apply rA|apply rN|apply rD));exact F3 z5 zg (fun _ hk=>hk.1)⟩,⟨by(with_reducible repeat(first|apply rA|apply rN|apply rD));exact F3 z6 zg (fun _ hk=>hk.1)⟩,⟨by refine B3 zo ?_;exact zf.out⟩,⟨by refine B3 zi ?_;exact ze.out⟩,⟨by exact P3 zg⟩,⟨qB3 HB zl zp zx⟩⟩
  clear HC43
  try clear c28
  try clear z8
  try clear yae yaf
  obtain⟨kq,yo,rfl,HA,HJ42,zb,za,zf,ze,zg,HB⟩:=hcut
  cases kq with
  | zero=>exact absurd HA.out (by simp[fcz.j2])
  | succ kj42=>?_
  have H:=HA.out
  clear HA
  simp only[fcz.j2] at H
  by_cases c46:yo=true
  ·subst c46
   rw[ip rfl] at H
   replace H:=oi4 H
   obtain⟨rfl,rfl,rfl,rfl⟩:=H
   have hnb47:=zk.out
   have hnc47:=zj.out
   have hnb48:=zi.out
   have hnc48:=zs.out
   have hcz49:=blk3 ze.out
   go_wp2
   refine bodyPost_ret (results_ct rfl _ _ zm 44 #[.int .i64 0,.slice none 0 0,.slice none 0 0] (0,0) _ rfl (by exact P3 ze) Try.underlying44 rfl (by kernel_rfl)) rfl ?_
   exact⟨_,_,pE,pN,pN,qB3 HB zl zp zx⟩
  replace c46:=Bool.eq_false_iff.mpr c46
  subst c46
  rw[iN fT] at H
  by_cases c50:(wrap64 (a2+(wrap64 ((wrap64 (a3-1))*a4))))<0
  ·rw[ip c50] at H
   have yai:=dT c50
   clear c50
   replace H:=oi4 H
   obtain⟨rfl,rfl,rfl,rfl⟩:=H
   have hnb51:=zk.out
   have hnc51:=zj.out
   have hnb52:=zi.out
   have hnc52:=zs.out
   have hcz53:=blk3 ze.out
   go_wp2
   refine bodyPost_ret (results_ct rfl _ _ zm 44 #[.int .i64 0,.slice none 0 0,.slice none 0 0] (0,0) _ rfl (by exact P3 ze) Try.underlying44 rfl (by kernel_rfl)) rfl ?_
   exact⟨_,_,pE,pN,pN,qB3 HB zl zp zx⟩
  rw[iN c50] at H
  have yai:=dF c50
  clear c50
  by_cases c54:(wrap64 (a2+(wrap64 ((wrap64 (a3-1))*a4)))) ≥ (rd yb a1)
  ·rw[ip c54] at H
   have yaj:decide ((rd yb a1)≤(wrap64 (a2+(wrap64 ((wrap64 (a3-1))*a4)))))=true:=decide_eq_true c54
   clear c54
   replace H:=oi4 H
   obtain⟨rfl,rfl,rfl,rfl⟩:=H
   have hnb55:=zk.out
   have hnc55:=zj.out
   have hnb56:=zi.out
   have hnc56:=zs.out
   have hcz57:=blk3 ze.out
   go_wp2
   refine bodyPost_ret (results_ct rfl _ _ zm 44 #[.int .i64 0,.slice none 0 0,.slice none 0 0] (0,0) _ rfl (by exact P3 ze) Try.underlying44 rfl (by kernel_rfl)) rfl ?_
   exact⟨_,_,pE,pN,pN,qB3 HB zl zp zx⟩
  rw[iN c54] at H
  have yaj:decide ((rd yb a1)≤(wrap64 (a2+(wrap64 ((wrap64 (a3-1))*a4)))))=false:=decide_eq_false c54
  clear c54
  by_cases c58:0≤a1
  rotate_left
  ·rw[iN c58] at H
   cases H
  rw[ip c58] at H
  have c58b0:=dT c58
  clear c58
  by_cases c59:a1<(ya.length:Int)
  rotate_left
  ·rw[iN c59] at H
   cases H
  rw[ip c59] at H
  have c59b0:=dT c59
  clear c59
  by_cases c60:a1<(z3.length:Int)
  rotate_left
  ·rw[iN c60] at H
   cases H
  rw[ip c60] at H
  have c60b0:=dT c60
  clear c60
  obtain⟨zbb,zas⟩:∃ y_:List Int,y_=(z3.set (a1:Int).toNat (wrap64 ((rd ya a1)*a4))):=⟨_,rfl⟩
  replace H:(fcz.j3 kj42 a1 a2 a3 yc yb ya zq z4 zbb)=some (r1,r2,r3,r4):=pH zas H
  have Ny188:=aM zas
  clear zas
  have H':=aM H
  clear H
  try go_wp2
  replace zb:=aM (Kd.R_drew zb.out)
  replace za:=aM (Kd.R_drew za.out)
  replace zf:=aM (blk_drew zf.out)
  replace ze:=aM (blk_drew ze.out)
  replace zg:=aM (blk_drew zg.out)
  replace HB:=aM (below_drew1 HB.out)
  obtain⟨y1,⟨⟩,yt,p187,q187⟩:=zI z7.out a1
  have yu:=zW HB yt
  have p61:0≤(a1:Int):=oD
  have q61:(a1:Int)<((z3.length:Int):Int):=oD
  obtain⟨yv,co61,zbc,zbd,gl61,cl61,HG61⟩:=Kd.R_form za.out (by omega)
  (first|cases zbc|(injection zbc with ea_ en_ ec_;(first|subst ea_|(injection ea_ with ea_;subst ea_));subst ec_;clear en_))
  have GB61:=aM zbd
  have GG61:=aM HG61
  clear zbd gl61 HG61
  obtain⟨y2,hf61_0⟩:=Kd.R_celln 0 za.out (a1:Int) p61 q61
  have HP63:=Kd.R_putn za.out (a1:Int) (wrap64 ((rd ya a1)*a4))
  rw[← Ny188.out] at HP63
  have HQ63:=aM HP63
  clear HP63
  refine sT 12 [11] (fun w'=>w'.cell? ⟨zh,0,none⟩=some (.int .i64 zq)∧w'.cell? ⟨zh,1,none⟩=some (.slice zai z4.length zaj)∧w'.cell? ⟨zh,2,none⟩=some (.slice (some ⟨yv,0,none⟩) z3.length zak)∧w'.cell? ⟨zu,0,none⟩=some (.int .i64 yc)∧w'.cell? ⟨zu,1,none⟩=some (.slice (some yh) yb.length yf)∧w'.cell? ⟨zu,2,none⟩=some (.slice (some y1) ya.length yg)∧w'.cell? (y1.add (a1).toNat)=some (.int .i64 (rd ya a1))) fcz.tab15 fcz.bits15 ⟨(blk_cell zg.out 0).trans rfl,(blk_cell zg.out 1).trans rfl,(blk_cell zg.out 2).trans rfl,(blk_cell zf.out 0).trans rfl,(blk_cell zf.out 1).trans rfl,(blk_cell zf.out 2).trans rfl,(zW HB yt)⟩ (fun hHeld HT_ HW_=>?_)
  generalize wc.drew=w62 at zb za zf ze zg HB GG61 HQ63 hf61_0 yu y2 hHeld ⊢
  refine pQ 0 83 12 1 HT_ ?_
  refine pQ 2 85 12 5 HT_ ?_
  refine pQ 3 86 12 13 HT_ ?_
  refine pQ 5 88 12 45 HT_ ?_
  refine pQ 8 91 12 301 HT_ ?_
  refine pU7 1 84 12 303 HT_ HW_ hHeld ?_
  refine pU7 4 87 12 319 HT_ HW_ hHeld ?_
  refine pQ 6 89 12 383 HT_ ?_
  refine pU7 7 90 12 511 HT_ HW_ hHeld ?_
  refine pQ 9 92 12 1023 HT_ ?_
  refine pQ 10 93 12 2047 HT_ ?_
  refine last_ (i:=11) (N:=none) (bm 12 4095) rfl rfl (one_of HT_.out (by kernel_rfl)) (by decide) (fun K hK=>?_)
  refine skip_ (w1:=?_) (by rfl) rfl ?_ ?_
  rotate_left
  ·go_simp
   rfl
  refine hK.out _ _ ?_
  clear hK K
  refine dN HT_ ?_
  try go_wp2
  go_meet
  case rel=>exact⟨_,(0),(z4),(zbb),(.slice zai z4.length zaj),(.slice (some ⟨yv,0,none⟩) z3.length zak),H',⟨by have:=HJ7.out;have:=zar.out;have:=HJ42.out;first|omega|exact Nat.le_refl _⟩,⟨by(with_reducible repeat(first|apply rA|apply rN|apply rD));exact Kd.R_mono (Kd.R_far (p:=⟨yv,(a1:Int).toNat,none⟩) (Kd.R_mono zb.out (fun k_ hk=>(⟨hk,fun e_=>hk (by rw[e_];rfl)⟩:_∧k_≠yv))) (fun _ hk=>hk.2) (.int .i64 (wrap64 ((rd ya a1)*a4)))) (fun _ hk=>hk.1)⟩,⟨pR HQ63.out⟩,⟨by(with_reducible repeat(first|apply bN|apply bD|apply bA));refine blk_far ?_ (by have h_:=Kd.R_ne za.out zf.out (by decide);intro e_;exact h_ (by rw[e_];rfl)) _;(with_reducible repeat(first|apply bN|apply bD|apply bA));exact zf.out⟩,⟨by(with_reducible repeat(first|apply bN|apply bD|apply bA));refine blk_far ?_ (by have h_:=Kd.R_ne za.out ze.out (by decide);intro e_;exact h_ (by rw[e_];rfl)) _;(with_reducible repeat(first|apply bN|apply bD|apply bA));exact ze.out⟩,⟨by(with_reducible repeat(first|apply bN|apply bD|apply bA));refine blk_far ?_ (by have h_:=Kd.R_ne za.out zg.out (by decide);intro e_;exact h_ (by rw[e_];rfl)) _;(with_reducible repeat(first|apply bN|apply bD|apply bA));exact zg.out⟩,⟨qB4 HB GB61 zl zp zx⟩⟩
 clear HC32
 obtain⟨kq,zy,zc,zd,u187001,u187002,HA,HJ31,zb,za,zf,ze,zg,HB⟩:=hcut
 cases kq with
 | zero=>exact absurd HA.out (by simp[fcz.j3])
 | succ kj31=>?_
 have H:=HA.out
 clear HA
 simp only[fcz.j3] at H
 by_cases c64:a2 > 0
 rotate_left
 ·rw[iN c64] at H
  have yak:decide (0<a2)=false:=decide_eq_false c64
  clear c64
  by_cases c98:0≤a1
  rotate_left
  ·rw[iN c98] at H
   cases H
  rw[ip c98] at H
  have c98b0:=dT c98
  clear c98
  by_cases c99:a1<(zc.length:Int)
  rotate_left
  ·rw[iN c99] at H
   cases H
  rw[ip c99] at H
  have c99b0:=dT c99
  clear c99
  obtain⟨zaa,zat⟩:∃ y_:List Int,y_=(zc.set (a1:Int).toNat a3):=⟨_,rfl⟩
  replace H:(if a3=1 then(if a1<(zd.length:Int)then(some (zq,zaa,(zd.set (a1:Int).toNat 0),0))else(none))else(some (zq,zaa,zd,0)))=some (r1,r2,r3,r4):=pH zat H
  have za1:=aM zat
  clear zat
  by_cases c101:a3=1
  rotate_left
  ·rw[iN c101] at H
   have y3:=bF c101
   have y4:=nT c101
   replace H:=oi4 H
   obtain⟨rfl,rfl,rfl,rfl⟩:=H
   have hnb115:=zv.out
   have hnc115:=zo.out
   have hnb116:=zs.out
   have hnc116:=zi.out
   have hcz117:=blk3 zg.out
   have y5:0≤(a1:Int):=oD
   have y6:(a1:Int)<((zc.length:Int):Int):=oD
   obtain⟨yd,zz,zae,zaf,gl100,cl100,HG100⟩:=Kd.R_form zb.out (by omega)
   (first|cases zae|(injection zae with ea_ en_ ec_;(first|subst ea_|(injection ea_ with ea_;subst ea_));subst ec_;clear en_))
   have GB100:=aM zaf
   have GG100:=aM HG100
   clear zaf gl100 HG100
   obtain⟨yw,hf100_0⟩:=Kd.R_celln 0 zb.out (a1:Int) y5 y6
   have HP118:=Kd.R_putg zb.out (a1:Int) a3
   go_wp2_with (first|((with_reducible refine gate_store (t:=3) (p:=111) rfl ?_);refine store_event (t:=3) (p:=111) (v:=?vo_w119) (w1:=(wc.setCell ⟨yd,(a1:Int).toNat,none⟩ (.int .i64 a3))) ?hg ?ho ?hn ?hr ?_;(case ho=>rfl);(case hg=>rfl);(case hn=>rfl);(case hr=>first|(go_simp;done)|(go_simp;rfl));intro za5 hw;have hg:wc.grownBy za5 (some yd):=(by rw[hw];exact HP118.2);have hp_:Kd.R (Kd.int .i64) 3 za5 w.heap.size (fun k_=>some k_≠(u187002:Value).ownBlock) (.slice (some ⟨yd,0,none⟩) zc.length zz) zaa:=(by rw[hw,za1.out];exact HP118.1);clear HP118;replace za:=aM (Kd.R_after (v:=(.slice (some ⟨yd,0,none⟩) zc.length zz)) (v1:=(.slice (some ⟨yd,0,none⟩) zc.length zz)) (ok:=(fun _=>True)) (by(with_reducible repeat(first|apply rA|apply rN|apply rD));exact Kd.R_mono za.out (fun _ hk=>⟨trivial,hk⟩)) hg (.inl rfl));replace zf:=aM (blk_grown (g:=zu) (pK zf.out) hg (Kd.R_ne zb.out zf.out (by decide)));replace ze:=aM (blk_grown (g:=zm) (pK ze.out) hg (Kd.R_ne zb.out ze.out (by decide)));replace zg:=aM (blk_grown (g:=zh) (pK zg.out) hg (Kd.R_ne zb.out zg.out (by decide)));replace zb:=aM (hp_);replace HB:=aM ((by rw[hw];exact below_set (HB.out) GB100.out:Below w.heap.size w za5));clear hg hw hp_;have hcz120:=blk3 zg.out;have hnb121:=zk.out;have hnc121:=zj.out;have hcz122:=blk3 ze.out;obtain⟨yal,yam,yan⟩:=Kd.R_slice za.out;subst yan))
   refine bodyPost_ret (results_ct rfl _ _ zm 44 #[.int .i64 zq,.slice (some ⟨yd,0,none⟩) zc.length zz,.slice yal zd.length yam] (0,0) _ rfl (by exact P3 ze) Try.underlying44 rfl (by kernel_rfl)) rfl ?_
   exact⟨_,_,pE,by(with_reducible repeat(first|apply rA|apply rN|apply rD));exact F3 zb ze (fun _ hk=>hk.1),by(with_reducible repeat(first|apply rA|apply rN|apply rD));exact F3 za ze (fun _ hk=>hk.1.2),qB3 HB zl zp zx⟩
  rw[ip c101] at H
  have y3:=bT c101
  have y4:=nF c101
  clear c101
  by_cases c102:a1<(zd.length:Int)
  rotate_left
  ·rw[iN c102] at H
   cases H
  rw[ip c102] at H
  have c102b0:=dT c102
  clear c102
  obtain⟨zbe,zau⟩:∃ y_:List Int,y_=(zd.set (a1:Int).toNat 0):=⟨_,rfl⟩
  replace H:(some (zq,zaa,zbe,0))=some (r1,r2,r3,r4):=pH zau H
  have Ny193:=aM zau
  clear zau
  replace H:=oi4 H
  obtain⟨rfl,rfl,rfl,rfl⟩:=H
  have hnb104:=zv.out
  have hnc104:=zo.out
  have hnb105:=zs.out
  have hnc105:=zi.out
  have hcz106:=blk3 zg.out
  have y5:0≤(a1:Int):=oD
  have y6:(a1:Int)<((zc.length:Int):Int):=oD
  obtain⟨yd,zz,zae,zaf,gl100,cl100,HG100⟩:=Kd.R_form zb.out (by omega)
  (first|cases zae|(injection zae with ea_ en_ ec_;(first|subst ea_|(injection ea_ with ea_;subst ea_));subst ec_;clear en_))
  have GB100:=aM zaf
  have GG100:=aM HG100
  clear zaf gl100 HG100
  obtain⟨yw,hf100_0⟩:=Kd.R_celln 0 zb.out (a1:Int) y5 y6
  have HP107:=Kd.R_putg zb.out (a1:Int) a3
  go_wp2_with (first|((with_reducible refine gate_store (t:=3) (p:=111) rfl ?_);refine store_event (t:=3) (p:=111) (v:=?vo_w108) (w1:=(wc.setCell ⟨yd,(a1:Int).toNat,none⟩ (.int .i64 a3))) ?hg ?ho ?hn ?hr ?_;(case ho=>rfl);(case hg=>rfl);(case hn=>rfl);(case hr=>first|(go_simp;done)|(go_simp;rfl));intro zav hw;have hg:wc.grownBy zav (some yd):=(by rw[hw];exact HP107.2);have hp_:Kd.R (Kd.int .i64) 3 zav w.heap.size (fun k_=>some k_≠(u187002:Value).ownBlock) (.slice (some ⟨yd,0,none⟩) zc.length zz) zaa:=(by rw[hw,za1.out];exact HP107.1);clear HP107;replace za:=aM (Kd.R_after (v:=(.slice (some ⟨yd,0,none⟩) zc.length zz)) (v1:=(.slice (some ⟨yd,0,none⟩) zc.length zz)) (ok:=(fun _=>True)) (by(with_reducible repeat(first|apply rA|apply rN|apply rD));exact Kd.R_mono za.out (fun _ hk=>⟨trivial,hk⟩)) hg (.inl rfl));replace zf:=aM (blk_grown (g:=zu) (pK zf.out) hg (Kd.R_ne zb.out zf.out (by decide)));replace ze:=aM (blk_grown (g:=zm) (pK ze.out) hg (Kd.R_ne zb.out ze.out (by decide)));replace zg:=aM (blk_grown (g:=zh) (pK zg.out) hg (Kd.R_ne zb.out zg.out (by decide)));replace zb:=aM (hp_);replace HB:=aM ((by rw[hw];exact below_set (HB.out) GB100.out:Below w.heap.size w zav));clear hg hw hp_;have hcz109:=blk3 zg.out;have yau:0≤(a1:Int):=oD;have yav:(a1:Int)<((zd.length:Int):Int):=oD;obtain⟨yl,zah,za2,za3,gl103,cl103,HG103⟩:=Kd.R_form za.out (by omega);(first|cases za2|(injection za2 with ea_ en_ ec_;(first|subst ea_|(injection ea_ with ea_;subst ea_));subst ec_;clear en_));have GB103:=aM za3;have GG103:=aM HG103;clear za3 gl103 HG103;obtain⟨hx103_0,hf103_0⟩:=Kd.R_celln 0 za.out (a1:Int) yau yav;have n_:=aM (Kd.R_mono (ok':=(fun k_=>some k_≠(.slice (some ⟨yd,0,none⟩) zc.length zz:Value).ownBlock)) za.out (fun k_ hk=>hk.2));clear za;have za:=n_;clear n_;obtain⟨hy110_,hz110_⟩:=Kd.R_celln 0 za.out (a1:Int) (of_decide_eq_true pD) (of_decide_eq_true pD);have HP110:=Kd.R_putg za.out (a1:Int) 0)|((with_reducible refine gate_store (t:=3) (p:=117) rfl ?_);refine store_event (t:=3) (p:=117) (v:=?vo_w111) (w1:=(zav.setCell ⟨yl,(a1:Int).toNat,none⟩ (.int .i64 0))) ?hg ?ho ?hn ?hr ?_;(case ho=>rfl);(case hg=>rfl);(case hn=>rfl);(case hr=>first|(go_simp;done)|(go_simp;rfl));intro za6 hw;have hg:zav.grownBy za6 (some yl):=(by rw[hw];exact HP110.2);have hp_:Kd.R (Kd.int .i64) 3 za6 w.heap.size (fun k_=>some k_≠(.slice (some ⟨yd,0,none⟩) zc.length zz:Value).ownBlock) (.slice (some ⟨yl,0,none⟩) zd.length zah) zbe:=(by rw[hw,Ny193.out];exact HP110.1);clear HP110;replace zb:=aM (Kd.R_after (v:=(.slice (some ⟨yl,0,none⟩) zd.length zah)) (v1:=(.slice (some ⟨yl,0,none⟩) zd.length zah)) (ok:=(fun _=>True)) (by(with_reducible repeat(first|apply rA|apply rN|apply rD));exact Kd.R_mono zb.out (fun _ hk=>⟨trivial,hk⟩)) hg (.inl rfl));replace zf:=aM (blk_grown (g:=zu) (pK zf.out) hg (Kd.R_ne za.out zf.out (by decide)));replace ze:=aM (blk_grown (g:=zm) (pK ze.out) hg (Kd.R_ne za.out ze.out (by decide)));replace zg:=aM (blk_grown (g:=zh) (pK zg.out) hg (Kd.R_ne za.out zg.out (by decide)));replace za:=aM (hp_);replace HB:=aM ((by rw[hw];exact below_set (HB.out) GB103.out:Below w.heap.size w za6));clear hg hw hp_;have hcz112:=blk3 zg.out;have hnb113:=zk.out;have hnc113:=zj.out;have hcz114:=blk3 ze.out))
  refine bodyPost_ret (results_ct rfl _ _ zm 44 #[.int .i64 zq,.slice (some ⟨yd,0,none⟩) zc.length zz,.slice (some ⟨yl,0,none⟩) zd.length zah] (0,0) _ rfl (by exact P3 ze) Try.underlying44 rfl (by kernel_rfl)) rfl ?_
  exact⟨_,_,pE,by(with_reducible repeat(first|apply rA|apply rN|apply rD));exact F3 zb ze (fun _ hk=>hk.1.2),by(with_reducible repeat(first|apply rA|apply rN|apply rD));exact F3 za ze (fun _ hk=>hk.1),qB3 HB zl zp zx⟩
 rw[ip c64] at H
 have yak:decide (0<a2)=true:=decide_eq_true c64
 clear c64
 by_cases c65:0≤a1
 rotate_left
 ·rw[iN c65] at H
  cases H
 rw[ip c65] at H
 have c65b0:=dT c65
 clear c65
 by_cases c66:a1<(ya.length:Int)
 rotate_left
 ·rw[iN c66] at H
  cases H
 rw[ip c66] at H
 have c66b0:=dT c66
 clear c66
 by_cases c67:a1<(zc.length:Int)
 rotate_left
 ·rw[iN c67] at H
  cases H
 rw[ip c67] at H
 have c67b0:=dT c67
 clear c67
 obtain⟨z9,zaw⟩:∃ y_:List Int,y_=(zc.set (a1:Int).toNat a3):=⟨_,rfl⟩
 replace H:(if a3=1 then(if a1<(zd.length:Int)then(some (wrap64 (zq+(wrap64 (a2*(rd ya a1)))),z9,(zd.set (a1:Int).toNat 0),0))else(none))else(some (wrap64 (zq+(wrap64 (a2*(rd ya a1)))),z9,zd,0)))=some (r1,r2,r3,r4):=pH zaw H
 have za4:=aM zaw
 clear zaw
 by_cases c69:a3=1
 rotate_left
 ·rw[iN c69] at H
  have yao:=bF c69
  have yap:=nT c69
  replace H:=oi4 H
  obtain⟨rfl,rfl,rfl,rfl⟩:=H
  try go_wp2
  replace zb:=aM (Kd.R_drew zb.out)
  replace za:=aM (Kd.R_drew za.out)
  replace zf:=aM (blk_drew zf.out)
  replace ze:=aM (blk_drew ze.out)
  replace zg:=aM (blk_drew zg.out)
  replace HB:=aM (below_drew1 HB.out)
  obtain⟨yk,⟨⟩,yi,yaw,yax⟩:=zI z7.out a1
  have yp:=zW HB yi
  refine sT 12 [11] (fun w'=>w'.cell? ⟨zh,0,none⟩=some (.int .i64 zq)∧w'.cell? ⟨zh,1,none⟩=some (u187001)∧w'.cell? ⟨zh,2,none⟩=some (u187002)∧w'.cell? ⟨zu,0,none⟩=some (.int .i64 yc)∧w'.cell? ⟨zu,1,none⟩=some (.slice (some yh) yb.length yf)∧w'.cell? ⟨zu,2,none⟩=some (.slice (some yk) ya.length yg)∧w'.cell? (yk.add (a1).toNat)=some (.int .i64 (rd ya a1))) fcz.tab17 fcz.bits17 ⟨(blk_cell zg.out 0).trans rfl,(blk_cell zg.out 1).trans rfl,(blk_cell zg.out 2).trans rfl,(blk_cell zf.out 0).trans rfl,(blk_cell zf.out 1).trans rfl,(blk_cell zf.out 2).trans rfl,(zW HB yi)⟩ (fun hHeld HT_ HW_=>?_)
  generalize wc.drew=w86 at zb za zf ze zg HB yp hHeld ⊢
  refine pQ 0 96 12 1 HT_ ?_
  refine pQ 2 98 12 5 HT_ ?_
  refine pQ 3 99 12 13 HT_ ?_
  refine pQ 5 101 12 45 HT_ ?_
  refine pU7 1 97 12 47 HT_ HW_ hHeld ?_
  refine pU7 4 100 12 63 HT_ HW_ hHeld ?_
  refine pQ 6 102 12 127 HT_ ?_
  refine pU7 7 103 12 255 HT_ HW_ hHeld ?_
  refine pQ 8 104 12 511 HT_ ?_
  refine pQ 9 105 12 1023 HT_ ?_
  refine pQ 10 106 12 2047 HT_ ?_
  refine last_ (i:=11) (N:=none) (bm 12 4095) rfl rfl (one_of HT_.out (by kernel_rfl)) (by decide) (fun K hK=>?_)
  have hs87:w86.cell? ⟨zh,0,none⟩=some (.int .i64 zq):=(blk_cell zg.out 0).trans rfl
  have hfs87:=blk_frozen zg.out 0
  have hns87_0:=zo.out
  have hns87_1:=zi.out
  have hms87_0:=zv.out
  have hms87_1:=zs.out
  refine skip_ (w1:=?_) (by rfl) rfl ?_ ?_
  rotate_left
  ·go_simp
   rfl
  refine hK.out _ _ ?_
  clear hK K
  refine dN HT_ ?_
  have n0_:Aside0 (Kd.R (Kd.int .i64) 3 (w86.setCell ⟨zh,0,none⟩ (.int .i64 (wrap64 (zq+(wrap64 (a2*(rd ya a1))))))) w.heap.size (fun k_=>some k_≠(u187002:Value).ownBlock) u187001 zc):=⟨by(with_reducible repeat(first|apply rA|apply rN|apply rD));exact Kd.R_mono (Kd.R_far (p:=⟨zh,0,none⟩) (Kd.R_types zb.out zg.out (by decide)) (fun _ hk=>hk.2) (.int .i64 (wrap64 (zq+(wrap64 (a2*(rd ya a1))))))) (fun _ hk=>hk.1)⟩
  have n1_:Aside0 (Kd.R (Kd.int .i64) 3 (w86.setCell ⟨zh,0,none⟩ (.int .i64 (wrap64 (zq+(wrap64 (a2*(rd ya a1))))))) w.heap.size (fun k_=>some k_≠(u187001:Value).ownBlock) u187002 zd):=⟨by(with_reducible repeat(first|apply rA|apply rN|apply rD));exact Kd.R_mono (Kd.R_far (p:=⟨zh,0,none⟩) (Kd.R_types za.out zg.out (by decide)) (fun _ hk=>hk.2) (.int .i64 (wrap64 (zq+(wrap64 (a2*(rd ya a1))))))) (fun _ hk=>hk.1)⟩
  have n2_:Aside0 ((w86.setCell ⟨zh,0,none⟩ (.int .i64 (wrap64 (zq+(wrap64 (a2*(rd ya a1))))))).heap[zu]?=some (.cells #[.int .i64 yc,.slice (some yh) yb.length yf,.slice (some yk) ya.length yg] 44 (0,0))):=⟨by(with_reducible repeat(first|apply bN|apply bD|apply bA));refine blk_far ?_ zo.out _;(with_reducible repeat(first|apply bN|apply bD|apply bA));exact zf.out⟩
  have n3_:Aside0 ((w86.setCell ⟨zh,0,none⟩ (.int .i64 (wrap64 (zq+(wrap64 (a2*(rd ya a1))))))).heap[zm]?=some (.cells #[.int .i64 zy,.slice none 0 0,.slice none 0 0] 44 (0,0))):=⟨by(with_reducible repeat(first|apply bN|apply bD|apply bA));refine blk_far ?_ zi.out _;(with_reducible repeat(first|apply bN|apply bD|apply bA));exact ze.out⟩
  have n4_:Aside0 ((w86.setCell ⟨zh,0,none⟩ (.int .i64 (wrap64 (zq+(wrap64 (a2*(rd ya a1))))))).heap[zh]?=some (.cells #[.int .i64 (wrap64 (zq+(wrap64 (a2*(rd ya a1))))),u187001,u187002] 44 (0,0))):=⟨by(with_reducible repeat(first|apply bN|apply bD|apply bA));refine blk_put (cs:=#[.int .i64 zq,u187001,u187002]) ?_ 0 _ rfl;(with_reducible repeat(first|apply bN|apply bD|apply bA));exact zg.out⟩
  have n5_:Aside0 (Below w.heap.size w (w86.setCell ⟨zh,0,none⟩ (.int .i64 (wrap64 (zq+(wrap64 (a2*(rd ya a1)))))))):=⟨qB3 HB zl zp zx⟩
  (try clear zb)
  (try clear za)
  (try clear zf)
  (try clear ze)
  (try clear zg)
  (try clear HB)
  generalize (w86.setCell ⟨zh,0,none⟩ (.int .i64 (wrap64 (zq+(wrap64 (a2*(rd ya a1)))))))=w88 at n0_ n1_ n2_ n3_ n4_ n5_ ⊢
  have zb:=n0_
  have za:=n1_
  have zf:=n2_
  have ze:=n3_
  have zg:=n4_
  have HB:=n5_
  clear n0_ n1_ n2_ n3_ n4_ n5_
  have hnb89:=zv.out
  have hnc89:=zo.out
  have hnb90:=zs.out
  have hnc90:=zi.out
  have hcz91:=blk3 zg.out
  have p68:0≤(a1:Int):=oD
  have q68:(a1:Int)<((zc.length:Int):Int):=oD
  obtain⟨ye,z2,zax,zay,gl68,cl68,HG68⟩:=Kd.R_form zb.out (by omega)
  (first|cases zax|(injection zax with ea_ en_ ec_;(first|subst ea_|(injection ea_ with ea_;subst ea_));subst ec_;clear en_))
  have GB68:=aM zay
  have GG68:=aM HG68
  clear zay gl68 HG68
  obtain⟨y7,hf68_0⟩:=Kd.R_celln 0 zb.out (a1:Int) p68 q68
  obtain⟨hy92_,hz92_⟩:=Kd.R_celln 0 zb.out (a1:Int) (of_decide_eq_true pD) (of_decide_eq_true pD)
  have HP92:=Kd.R_putg zb.out (a1:Int) a3
  try go_wp2_with (first|((with_reducible refine gate_store (t:=3) (p:=111) rfl ?_);refine store_event (t:=3) (p:=111) (v:=?vo_w93) (w1:=(w88.setCell ⟨ye,(a1:Int).toNat,none⟩ (.int .i64 a3))) ?hg ?ho ?hn ?hr ?_;(case ho=>rfl);(case hg=>rfl);(case hn=>rfl);(case hr=>first|(go_simp;done)|(go_simp;rfl));intro w93 hw;have hg:w88.grownBy w93 (some ye):=(by rw[hw];exact HP92.2);have hp_:Kd.R (Kd.int .i64) 3 w93 w.heap.size (fun k_=>some k_≠(u187002:Value).ownBlock) (.slice (some ⟨ye,0,none⟩) zc.length z2) z9:=(by rw[hw,za4.out];exact HP92.1);clear HP92;replace za:=aM (Kd.R_after (v:=(.slice (some ⟨ye,0,none⟩) zc.length z2)) (v1:=(.slice (some ⟨ye,0,none⟩) zc.length z2)) (ok:=(fun _=>True)) (by(with_reducible repeat(first|apply rA|apply rN|apply rD));exact Kd.R_mono za.out (fun _ hk=>⟨trivial,hk⟩)) hg (.inl rfl));replace zf:=aM (blk_grown (g:=zu) (pK zf.out) hg (Kd.R_ne zb.out zf.out (by decide)));replace ze:=aM (blk_grown (g:=zm) (pK ze.out) hg (Kd.R_ne zb.out ze.out (by decide)));replace zg:=aM (blk_grown (g:=zh) (pK zg.out) hg (Kd.R_ne zb.out zg.out (by decide)));replace zb:=aM (hp_);replace HB:=aM ((by rw[hw];exact below_set (HB.out) GB68.out:Below w.heap.size w w93));clear hg hw hp_;have hcz94:=blk3 zg.out;have hnb95:=zk.out;have hnc95:=zj.out;have hcz96:=blk3 ze.out;obtain⟨za7,za8,ya0⟩:=Kd.R_slice za.out;subst ya0))
  refine bodyPost_ret (results_ct rfl _ _ zm 44 #[.int .i64 (wrap64 (zq+(wrap64 (a2*(rd ya a1))))),.slice (some ⟨ye,0,none⟩) zc.length z2,.slice za7 zd.length za8] (0,0) _ rfl (by exact P3 ze) Try.underlying44 rfl (by kernel_rfl)) rfl ?_
  exact⟨_,_,pE,by(with_reducible repeat(first|apply rA|apply rN|apply rD));exact Kd.R_mono (Kd.R_far (p:=⟨zm,2,none⟩) (Kd.R_far (p:=⟨zm,1,none⟩) (Kd.R_far (p:=⟨zm,0,none⟩) (Kd.R_types zb.out ze.out (by decide)) (fun _ hk=>hk.2) (.int .i64 (wrap64 (zq+(wrap64 (a2*(rd ya a1))))))) (fun _ hk=>hk.2) (.slice (some ⟨ye,0,none⟩) zc.length z2)) (fun _ hk=>hk.2) (.slice za7 zd.length za8)) (fun _ hk=>hk.1),by(with_reducible repeat(first|apply rA|apply rN|apply rD));exact Kd.R_mono (Kd.R_far (p:=⟨zm,2,none⟩) (Kd.R_far (p:=⟨zm,1,none⟩) (Kd.R_far (p:=⟨zm,0,none⟩) (Kd.R_types za.out ze.out (by decide)) (fun _ hk=>hk.2) (.int .i64 (wrap64 (zq+(wrap64 (a2*(rd ya a1))))))) (fun _ hk=>hk.2) (.slice (some ⟨ye,0,none⟩) zc.length z2)) (fun _ hk=>hk.2) (.slice za7 zd.length za8)) (fun _ hk=>hk.1.2),qB3 HB zl zp zx⟩
 rw[ip c69] at H
 have yao:=bT c69
 have yap:=nF c69
 clear c69
 by_cases c70:a1<(zd.length:Int)
 rotate_left
 ·rw[iN c70] at H
  cases H
 rw[ip c70] at H
 have c70b0:=dT c70
 clear c70
 obtain⟨zbf,zaz⟩:∃ y_:List Int,y_=(zd.set (a1:Int).toNat 0):=⟨_,rfl⟩
 replace H:(some (wrap64 (zq+(wrap64 (a2*(rd ya a1)))),z9,zbf,0))=some (r1,r2,r3,r4):=pH zaz H
 have Ny191:=aM zaz
 clear zaz
 replace H:=oi4 H
 obtain⟨rfl,rfl,rfl,rfl⟩:=H
 try go_wp2
 replace zb:=aM (Kd.R_drew zb.out)
 replace za:=aM (Kd.R_drew za.out)
 replace zf:=aM (blk_drew zf.out)
 replace ze:=aM (blk_drew ze.out)
 replace zg:=aM (blk_drew zg.out)
 replace HB:=aM (below_drew1 HB.out)
 obtain⟨yk,⟨⟩,yi,yaw,yax⟩:=zI z7.out a1
 have yp:=zW HB yi
 refine sT 12 [11] (fun w'=>w'.cell? ⟨zh,0,none⟩=some (.int .i64 zq)∧w'.cell? ⟨zh,1,none⟩=some (u187001)∧w'.cell? ⟨zh,2,none⟩=some (u187002)∧w'.cell? ⟨zu,0,none⟩=some (.int .i64 yc)∧w'.cell? ⟨zu,1,none⟩=some (.slice (some yh) yb.length yf)∧w'.cell? ⟨zu,2,none⟩=some (.slice (some yk) ya.length yg)∧w'.cell? (yk.add (a1).toNat)=some (.int .i64 (rd ya a1))) fcz.tab17 fcz.bits17 ⟨(blk_cell zg.out 0).trans rfl,(blk_cell zg.out 1).trans rfl,(blk_cell zg.out 2).trans rfl,(blk_cell zf.out 0).trans rfl,(blk_cell zf.out 1).trans rfl,(blk_cell zf.out 2).trans rfl,(zW HB yi)⟩ (fun hHeld HT_ HW_=>?_)
 generalize wc.drew=w72 at zb za zf ze zg HB yp hHeld ⊢
 refine pQ 0 96 12 1 HT_ ?_
 refine pQ 2 98 12 5 HT_ ?_
 refine pQ 3 99 12 13 HT_ ?_
 refine pQ 5 101 12 45 HT_ ?_
 refine pU7 1 97 12 47 HT_ HW_ hHeld ?_
 refine pU7 4 100 12 63 HT_ HW_ hHeld ?_
 refine pQ 6 102 12 127 HT_ ?_
 refine pU7 7 103 12 255 HT_ HW_ hHeld ?_
 refine pQ 8 104 12 511 HT_ ?_
 refine pQ 9 105 12 1023 HT_ ?_
 refine pQ 10 106 12 2047 HT_ ?_
 refine last_ (i:=11) (N:=none) (bm 12 4095) rfl rfl (one_of HT_.out (by kernel_rfl)) (by decide) (fun K hK=>?_)
 have hs73:w72.cell? ⟨zh,0,none⟩=some (.int .i64 zq):=(blk_cell zg.out 0).trans rfl
 have hfs73:=blk_frozen zg.out 0
 have hns73_0:=zo.out
 have hns73_1:=zi.out
 have hms73_0:=zv.out
 have hms73_1:=zs.out
 refine skip_ (w1:=?_) (by rfl) rfl ?_ ?_
 rotate_left
 ·go_simp
  rfl
 refine hK.out _ _ ?_
 clear hK K
 refine dN HT_ ?_
 have n0_:Aside0 (Kd.R (Kd.int .i64) 3 (w72.setCell ⟨zh,0,none⟩ (.int .i64 (wrap64 (zq+(wrap64 (a2*(rd ya a1))))))) w.heap.size (fun k_=>some k_≠(u187002:Value).ownBlock) u187001 zc):=⟨by(with_reducible repeat(first|apply rA|apply rN|apply rD));exact Kd.R_mono (Kd.R_far (p:=⟨zh,0,none⟩) (Kd.R_types zb.out zg.out (by decide)) (fun _ hk=>hk.2) (.int .i64 (wrap64 (zq+(wrap64 (a2*(rd ya a1))))))) (fun _ hk=>hk.1)⟩
 have n1_:Aside0 (Kd.R (Kd.int .i64) 3 (w72.setCell ⟨zh,0,none⟩ (.int .i64 (wrap64 (zq+(wrap64 (a2*(rd ya a1))))))) w.heap.size (fun k_=>some k_≠(u187001:Value).ownBlock) u187002 zd):=⟨by(with_reducible repeat(first|apply rA|apply rN|apply rD));exact Kd.R_mono (Kd.R_far (p:=⟨zh,0,none⟩) (Kd.R_types za.out zg.out (by decide)) (fun _ hk=>hk.2) (.int .i64 (wrap64 (zq+(wrap64 (a2*(rd ya a1))))))) (fun _ hk=>hk.1)⟩
 have n2_:Aside0 ((w72.setCell ⟨zh,0,none⟩ (.int .i64 (wrap64 (zq+(wrap64 (a2*(rd ya a1))))))).heap[zu]?=some (.cells #[.int .i64 yc,.slice (some yh) yb.length yf,.slice (some yk) ya.length yg] 44 (0,0))):=⟨by(with_reducible repeat(first|apply bN|apply bD|apply bA));refine blk_far ?_ zo.out _;(with_reducible repeat(first|apply bN|apply bD|apply bA));exact zf.out⟩
 have n3_:Aside0 ((w72.setCell ⟨zh,0,none⟩ (.int .i64 (wrap64 (zq+(wrap64 (a2*(rd ya a1))))))).heap[zm]?=some (.cells #[.int .i64 zy,.slice none 0 0,.slice none 0 0] 44 (0,0))):=⟨by(with_reducible repeat(first|apply bN|apply bD|apply bA));refine blk_far ?_ zi.out _;(with_reducible repeat(first|apply bN|apply bD|apply bA));exact ze.out⟩
 have n4_:Aside0 ((w72.setCell ⟨zh,0,none⟩ (.int .i64 (wrap64 (zq+(wrap64 (a2*(rd ya a1))))))).heap[zh]?=some (.cells #[.int .i64 (wrap64 (zq+(wrap64 (a2*(rd ya a1))))),u187001,u187002] 44 (0,0))):=⟨by(with_reducible repeat(first|apply bN|apply bD|apply bA));refine blk_put (cs:=#[.int .i64 zq,u187001,u187002]) ?_ 0 _ rfl;(with_reducible repeat(first|apply bN|apply bD|apply bA));exact zg.out⟩
 have n5_:Aside0 (Below w.heap.size w (w72.setCell ⟨zh,0,none⟩ (.int .i64 (wrap64 (zq+(wrap64 (a2*(rd ya a1)))))))):=⟨qB3 HB zl zp zx⟩
 (try clear zb)
 (try clear za)
 (try clear zf)
 (try clear ze)
 (try clear zg)
 (try clear HB)
 generalize (w72.setCell ⟨zh,0,none⟩ (.int .i64 (wrap64 (zq+(wrap64 (a2*(rd ya a1)))))))=w74 at n0_ n1_ n2_ n3_ n4_ n5_ ⊢
 have zb:=n0_
 have za:=n1_
 have zf:=n2_
 have ze:=n3_
 have zg:=n4_
 have HB:=n5_
 clear n0_ n1_ n2_ n3_ n4_ n5_
 have hnb75:=zv.out
 have hnc75:=zo.out
 have hnb76:=zs.out
 have hnc76:=zi.out
 have hcz77:=blk3 zg.out
 have p68:0≤(a1:Int):=oD
 have q68:(a1:Int)<((zc.length:Int):Int):=oD
 obtain⟨ye,z2,zax,zay,gl68,cl68,HG68⟩:=Kd.R_form zb.out (by omega)
 (first|cases zax|(injection zax with ea_ en_ ec_;(first|subst ea_|(injection ea_ with ea_;subst ea_));subst ec_;clear en_))
 have GB68:=aM zay
 have GG68:=aM HG68
 clear zay gl68 HG68
 obtain⟨y7,hf68_0⟩:=Kd.R_celln 0 zb.out (a1:Int) p68 q68
 obtain⟨hy78_,hz78_⟩:=Kd.R_celln 0 zb.out (a1:Int) (of_decide_eq_true pD) (of_decide_eq_true pD)
 have HP78:=Kd.R_putg zb.out (a1:Int) a3
 try go_wp2_with (first|((with_reducible refine gate_store (t:=3) (p:=111) rfl ?_);refine store_event (t:=3) (p:=111) (v:=?vo_w79) (w1:=(w74.setCell ⟨ye,(a1:Int).toNat,none⟩ (.int .i64 a3))) ?hg ?ho ?hn ?hr ?_;(case ho=>rfl);(case hg=>rfl);(case hn=>rfl);(case hr=>first|(go_simp;done)|(go_simp;rfl));intro w79 hw;have hg:w74.grownBy w79 (some ye):=(by rw[hw];exact HP78.2);have hp_:Kd.R (Kd.int .i64) 3 w79 w.heap.size (fun k_=>some k_≠(u187002:Value).ownBlock) (.slice (some ⟨ye,0,none⟩) zc.length z2) z9:=(by rw[hw,za4.out];exact HP78.1);clear HP78;replace za:=aM (Kd.R_after (v:=(.slice (some ⟨ye,0,none⟩) zc.length z2)) (v1:=(.slice (some ⟨ye,0,none⟩) zc.length z2)) (ok:=(fun _=>True)) (by(with_reducible repeat(first|apply rA|apply rN|apply rD));exact Kd.R_mono za.out (fun _ hk=>⟨trivial,hk⟩)) hg (.inl rfl));replace zf:=aM (blk_grown (g:=zu) (pK zf.out) hg (Kd.R_ne zb.out zf.out (by decide)));replace ze:=aM (blk_grown (g:=zm) (pK ze.out) hg (Kd.R_ne zb.out ze.out (by decide)));replace zg:=aM (blk_grown (g:=zh) (pK zg.out) hg (Kd.R_ne zb.out zg.out (by decide)));replace zb:=aM (hp_);replace HB:=aM ((by rw[hw];exact below_set (HB.out) GB68.out:Below w.heap.size w w79));clear hg hw hp_;have hcz80:=blk3 zg.out;have p71:0≤(a1:Int):=oD;have q71:(a1:Int)<((zd.length:Int):Int):=oD;obtain⟨yq,zal,zbg,zbh,gl71,cl71,HG71⟩:=Kd.R_form za.out (by omega);(first|cases zbg|(injection zbg with ea_ en_ ec_;(first|subst ea_|(injection ea_ with ea_;subst ea_));subst ec_;clear en_));have GB71:=aM zbh;have GG71:=aM HG71;clear zbh gl71 HG71;obtain⟨hx71_0,hf71_0⟩:=Kd.R_celln 0 za.out (a1:Int) p71 q71;have n_:=aM (Kd.R_mono (ok':=(fun k_=>some k_≠(.slice (some ⟨ye,0,none⟩) zc.length z2:Value).ownBlock)) za.out (fun k_ hk=>hk.2));clear za;have za:=n_;clear n_;obtain⟨hy81_,hz81_⟩:=Kd.R_celln 0 za.out (a1:Int) (of_decide_eq_true pD) (of_decide_eq_true pD);have HP81:=Kd.R_putg za.out (a1:Int) 0)|((with_reducible refine gate_store (t:=3) (p:=117) rfl ?_);refine store_event (t:=3) (p:=117) (v:=?vo_w82) (w1:=(w79.setCell ⟨yq,(a1:Int).toNat,none⟩ (.int .i64 0))) ?hg ?ho ?hn ?hr ?_;(case ho=>rfl);(case hg=>rfl);(case hn=>rfl);(case hr=>first|(go_simp;done)|(go_simp;rfl));intro w82 hw;have hg:w79.grownBy w82 (some yq):=(by rw[hw];exact HP81.2);have hp_:Kd.R (Kd.int .i64) 3 w82 w.heap.size (fun k_=>some k_≠(.slice (some ⟨ye,0,none⟩) zc.length z2:Value).ownBlock) (.slice (some ⟨yq,0,none⟩) zd.length zal) zbf:=(by rw[hw,Ny191.out];exact HP81.1);clear HP81;replace zb:=aM (Kd.R_after (v:=(.slice (some ⟨yq,0,none⟩) zd.length zal)) (v1:=(.slice (some ⟨yq,0,none⟩) zd.length zal)) (ok:=(fun _=>True)) (by(with_reducible repeat(first|apply rA|apply rN|apply rD));exact Kd.R_mono zb.out (fun _ hk=>⟨trivial,hk⟩)) hg (.inl rfl));replace zf:=aM (blk_grown (g:=zu) (pK zf.out) hg (Kd.R_ne za.out zf.out (by decide)));replace ze:=aM (blk_grown (g:=zm) (pK ze.out) hg (Kd.R_ne za.out ze.out (by decide)));replace zg:=aM (blk_grown (g:=zh) (pK zg.out) hg (Kd.R_ne za.out zg.out (by decide)));replace za:=aM (hp_);replace HB:=aM ((by rw[hw];exact below_set (HB.out) GB71.out:Below w.heap.size w w82));clear hg hw hp_;have hcz83:=blk3 zg.out;have hnb84:=zk.out;have hnc84:=zj.out;have hcz85:=blk3 ze.out))
 refine bodyPost_ret (results_ct rfl _ _ zm 44 #[.int .i64 (wrap64 (zq+(wrap64 (a2*(rd ya a1))))),.slice (some ⟨ye,0,none⟩) zc.length z2,.slice (some ⟨yq,0,none⟩) zd.length zal] (0,0) _ rfl (by exact P3 ze) Try.underlying44 rfl (by kernel_rfl)) rfl ?_
 exact⟨_,_,pE,by(with_reducible repeat(first|apply rA|apply rN|apply rD));exact Kd.R_mono (Kd.R_far (p:=⟨zm,2,none⟩) (Kd.R_far (p:=⟨zm,1,none⟩) (Kd.R_far (p:=⟨zm,0,none⟩) (Kd.R_types zb.out ze.out (by decide)) (fun _ hk=>hk.2) (.int .i64 (wrap64 (zq+(wrap64 (a2*(rd ya a1))))))) (fun _ hk=>hk.2) (.slice (some ⟨ye,0,none⟩) zc.length z2)) (fun _ hk=>hk.2) (.slice (some ⟨yq,0,none⟩) zd.length zal)) (fun _ hk=>hk.1.2),by(with_reducible repeat(first|apply rA|apply rN|apply rD));exact Kd.R_mono (Kd.R_far (p:=⟨zm,2,none⟩) (Kd.R_far (p:=⟨zm,1,none⟩) (Kd.R_far (p:=⟨zm,0,none⟩) (Kd.R_types za.out ze.out (by decide)) (fun _ hk=>hk.2) (.int .i64 (wrap64 (zq+(wrap64 (a2*(rd ya a1))))))) (fun _ hk=>hk.2) (.slice (some ⟨ye,0,none⟩) zc.length z2)) (fun _ hk=>hk.2) (.slice (some ⟨yq,0,none⟩) zd.length zal)) (fun _ hk=>hk.1),qB3 HB zl zp zx⟩
def fbv.f (k:Nat) (a0 ye yf yg yh yo yp yq yr:Int)(ys:Bool)(yd:List Int)(yc:Int)(ya yb:List Int):Option (Int×List Int×List Int×Int):=if a0=33 then((fcw.f k yc ya yb yd).bind fun bt250=>(some (bt250.1,bt250.2.1,bt250.2.2.1,bt250.2.2.2)))else(if a0=34 then((fcv.f k yc ya yb yd).bind fun bt258=>(some (bt258.1,bt258.2.1,bt258.2.2.1,bt258.2.2.2)))else(if a0=35 then((fcz.f k yc ya yb ye yf yg yh).bind fun bt266=>(some (bt266.1,bt266.2.1,bt266.2.2.1,bt266.2.2.2)))else(if a0=36 then((fct.f k yc ya yb yd).bind fun bt274=>(some (bt274.1,bt274.2.1,bt274.2.2.1,bt274.2.2.2)))else(if a0=37 then((fcu.f k yc ya yb ye).bind fun bt282=>(some (bt282.1,bt282.2.1,bt282.2.2.1,bt282.2.2.2)))else(some (0,([]:List Int),([]:List Int),14))))))
theorem fbv.calls (k:Nat) (a0 ye yf yg yh yo yp yq yr:Int)(ys:Bool)(ym:Option Addr)(yn:Nat)(yd:List Int)(yc:Int)(yi:Option Addr)(yj:Nat)(ya:List Int)(yk:Option Addr)(yl:Nat)(yb:List Int)(r1:Int)(r2 r3:List Int)(r4:Int)(w:World)(yt:Kd.C (Kd.int .i64) w ym yd.length yd)(yu:yd.length≤yn)(yv:Kd.C (Kd.int .i64) w yi ya.length ya)(yw:ya.length≤yj)(yx:Kd.C (Kd.int .i64) w yk yb.length yb)(yy:yb.length≤yl)(h:fbv.f k a0 ye yf yg yh yo yp yq yr ys yd yc ya yb=some (r1,r2,r3,r4)) :
  Calls Try.prog 18 #[.int .i64 a0,.agg #[.int .i64 ye,.int .i64 yf,.int .i64 yg,.int .i64 yh,.int .i64 yo,.int .i64 yp,.int .i64 yq,.int .i64 yr,.bool ys,.slice ym yd.length yn],.agg #[.int .i64 yc,.slice yi ya.length yj,.slice yk yb.length yl]] w fun e w'=>∃ v1_ v2_:Value,e=.returned (.tuple #[.agg #[.int .i64 r1,v1_,v2_],.int .i64 r4])∧Kd.R (Kd.int .i64) 3 w' w.heap.size (fun k_=>some k_≠(v2_:Value).ownBlock) v1_ r2∧Kd.R (Kd.int .i64) 3 w' w.heap.size (fun k_=>some k_≠(v1_:Value).ownBlock) v2_ r3∧Below w.heap.size w w':=by
 have hu24:=Try.underlying24
 have hu44:=Try.underlying44
 have zw:=aM yt
 have zx:=aM yu
 clear yt yu
 have zq:=aM yv
 have zr:=aM yw
 clear yv yw
 have zs:=aM yx
 have zt:=aM yy
 clear yx yy
 have HB:=aM (Below.refl w.heap.size w)
 have H:(if a0=33 then((fcw.f k yc ya yb yd).bind fun bt250=>(some (bt250.1,bt250.2.1,bt250.2.2.1,bt250.2.2.2)))else(if a0=34 then((fcv.f k yc ya yb yd).bind fun bt258=>(some (bt258.1,bt258.2.1,bt258.2.2.1,bt258.2.2.2)))else(if a0=35 then((fcz.f k yc ya yb ye yf yg yh).bind fun bt266=>(some (bt266.1,bt266.2.1,bt266.2.2.1,bt266.2.2.2)))else(if a0=36 then((fct.f k yc ya yb yd).bind fun bt274=>(some (bt274.1,bt274.2.1,bt274.2.2.1,bt274.2.2.2)))else(if a0=37 then((fcu.f k yc ya yb ye).bind fun bt282=>(some (bt282.1,bt282.2.1,bt282.2.2.1,bt282.2.2.2)))else(some (0,([]:List Int),([]:List Int),14)))))))=some (r1,r2,r3,r4):=h
 clear h
 by_cases c4:a0=33
 ·rw[ip c4] at H
  have y7:=bT c4
  have y8:=nF c4
  clear c4
  replace H:=oB H
  obtain⟨⟨z8,z9,zaa,t257⟩,A50,H⟩:=H
  try dsimp only at H
  have A5:=aM A50
  clear A50
  replace H:=oi4 H
  obtain⟨rfl,rfl,rfl,rfl⟩:=H
  go_enter Try.func18,Try.ntmps18
  go_wp2_with (first|((with_reducible refine gD 4 rfl ?_);refine bX 4 24 (aT ye yf yg yh yo yp yq yr ys ym yd.length yn) ?_;intro zu hg w6 hbox hb;have za:=aM (hbox);have zm:=gE (w:=w) hg (qB HB);have zb:=zm;replace HB:=bS (qB HB) hb;clear hb hbox hg)|((with_reducible refine gD 5 rfl ?_);refine bX 5 44 #[.int .i64 yc,.slice yi ya.length yj,.slice yk yb.length yl] ?_;intro zv hg w7 hbox hb;have zc:=aM (hbox);have zn:=gE (w:=w) hg (qB1 HB zb);have zd:=zn;replace HB:=bS (qB1 HB zb) hb;have zk:=nL hg za;have zl:=nG hg za;replace za:=bK za hb;clear hb hbox hg)|((with_reducible refine gD 6 rfl ?_);refine bX 6 44 #[.int .i64 0,.slice none 0 0,.slice none 0 0] ?_;intro zo hg w8 hbox hb;have ze:=aM (hbox);have zp:=gE (w:=w) hg (qB2 HB zb zd);have zj:=zp;replace HB:=bS (qB2 HB zb zd) hb;have zf:=nL hg za;have zg:=nG hg za;replace za:=bK za hb;have zh:=nL hg zc;have zi:=nG hg zc;replace zc:=bK zc hb;clear hb hbox hg;have hnb9:=zl.out;have hnc9:=zk.out;have hnb10:=zh.out;have hnc10:=zi.out;have hcz11:=blk3 zc.out;have hnb12:=zf.out;have hnc12:=zg.out;have hcz13:=blk10 za.out)|((with_reducible refine gC 43 rfl ?_);refine gL 14 Try.func43 #[.agg #[.int .i64 yc,.slice yi ya.length yj,.slice yk yb.length yl],.slice ym yd.length yn] ?_;(with_reducible refine(fcw.calls k yc _ _ ya _ _ yb _ _ yd z8 z9 zaa t257 _ ?s1 zr.out ?s3 zt.out ?s5 zx.out A5.out).mono ?_);(case s1=>exact sC zq HB);(case s3=>exact sC zs HB);(case s5=>exact sC zw HB);rintro e w14 ⟨v252,v255,rfl,ho0,ho1,hb⟩;refine⟨_,rfl,?_⟩;have zy:=aM (Kd.R_lower ho0 (below_size (qB3 HB zb zd zj)));have zz:=aM (Kd.R_lower ho1 (below_size (qB3 HB zb zd zj)));replace za:=bK za hb;replace zc:=bK zc hb;replace ze:=bK ze hb;replace HB:=bS (qB3 HB zb zd zj) hb;have hcz15:=blk3 ze.out;obtain⟨y9,yaa,yab⟩:=Kd.R_slice zy.out;subst yab;obtain⟨yac,yad,yae⟩:=Kd.R_slice zz.out;subst yae))
  refine bodyPost_ret (results_ct rfl _ _ zo 44 #[.int .i64 z8,.slice y9 z9.length yaa,.slice yac zaa.length yad] (0,0) _ rfl (by exact P3 ze) Try.underlying44 rfl (by kernel_rfl)) rfl ?_
  exact⟨_,_,pE,by(with_reducible repeat(first|apply rA|apply rN|apply rD));exact F3 zy ze (fun _ hk=>hk.1),by(with_reducible repeat(first|apply rA|apply rN|apply rD));exact F3 zz ze (fun _ hk=>hk.1),qB3 HB zb zd zj⟩
 rw[iN c4] at H
 have y7:=bF c4
 have y8:=nT c4
 by_cases c18:a0=34
 ·rw[ip c18] at H
  have yz:=bT c18
  have y0:=nF c18
  clear c18
  replace H:=oB H
  obtain⟨⟨zab,zac,zad,t265⟩,zae,H⟩:=H
  try dsimp only at H
  have A19:=aM zae
  clear zae
  replace H:=oi4 H
  obtain⟨rfl,rfl,rfl,rfl⟩:=H
  go_enter Try.func18,Try.ntmps18
  go_wp2_with (first|((with_reducible refine gD 4 rfl ?_);refine bX 4 24 (aT ye yf yg yh yo yp yq yr ys ym yd.length yn) ?_;intro zu hg w20 hbox hb;have za:=aM (hbox);have zm:=gE (w:=w) hg (qB HB);have zb:=zm;replace HB:=bS (qB HB) hb;clear hb hbox hg)|((with_reducible refine gD 5 rfl ?_);refine bX 5 44 #[.int .i64 yc,.slice yi ya.length yj,.slice yk yb.length yl] ?_;intro zv hg w21 hbox hb;have zc:=aM (hbox);have zn:=gE (w:=w) hg (qB1 HB zb);have zd:=zn;replace HB:=bS (qB1 HB zb) hb;have zk:=nL hg za;have zl:=nG hg za;replace za:=bK za hb;clear hb hbox hg)|((with_reducible refine gD 6 rfl ?_);refine bX 6 44 #[.int .i64 0,.slice none 0 0,.slice none 0 0] ?_;intro zo hg w22 hbox hb;have ze:=aM (hbox);have zp:=gE (w:=w) hg (qB2 HB zb zd);have zj:=zp;replace HB:=bS (qB2 HB zb zd) hb;have zf:=nL hg za;have zg:=nG hg za;replace za:=bK za hb;have zh:=nL hg zc;have zi:=nG hg zc;replace zc:=bK zc hb;clear hb hbox hg;have hnb23:=zl.out;have hnc23:=zk.out;have hnb24:=zh.out;have hnc24:=zi.out;have hcz25:=blk3 zc.out;have hnb26:=zf.out;have hnc26:=zg.out;have hcz27:=blk10 za.out)|((with_reducible refine gC 44 rfl ?_);refine gL 22 Try.func44 #[.agg #[.int .i64 yc,.slice yi ya.length yj,.slice yk yb.length yl],.slice ym yd.length yn] ?_;(with_reducible refine(fcv.calls k yc _ _ ya _ _ yb _ _ yd zab zac zad t265 _ ?s1 zr.out ?s3 zt.out ?s5 zx.out A19.out).mono ?_);(case s1=>exact sC zq HB);(case s3=>exact sC zs HB);(case s5=>exact sC zw HB);rintro e w28 ⟨v260,v263,rfl,ho0,ho1,hb⟩;refine⟨_,rfl,?_⟩;have z0:=aM (Kd.R_lower ho0 (below_size (qB3 HB zb zd zj)));have z1:=aM (Kd.R_lower ho1 (below_size (qB3 HB zb zd zj)));replace za:=bK za hb;replace zc:=bK zc hb;replace ze:=bK ze hb;replace HB:=bS (qB3 HB zb zd zj) hb;have hcz29:=blk3 ze.out;obtain⟨yaf,yag,yah⟩:=Kd.R_slice z0.out;subst yah;obtain⟨yai,yaj,yak⟩:=Kd.R_slice z1.out;subst yak))
  refine bodyPost_ret (results_ct rfl _ _ zo 44 #[.int .i64 zab,.slice yaf zac.length yag,.slice yai zad.length yaj] (0,0) _ rfl (by exact P3 ze) Try.underlying44 rfl (by kernel_rfl)) rfl ?_
  exact⟨_,_,pE,by(with_reducible repeat(first|apply rA|apply rN|apply rD));exact F3 z0 ze (fun _ hk=>hk.1),by(with_reducible repeat(first|apply rA|apply rN|apply rD));exact F3 z1 ze (fun _ hk=>hk.1),qB3 HB zb zd zj⟩
 rw[iN c18] at H
 have yz:=bF c18
 have y0:=nT c18
 by_cases c32:a0=35
 ·rw[ip c32] at H
  have y1:=bT c32
  have y2:=nF c32
  clear c32
  replace H:=oB H
  obtain⟨⟨zaf,zag,zah,t273⟩,zai,H⟩:=H
  try dsimp only at H
  have A33:=aM zai
  clear zai
  replace H:=oi4 H
  obtain⟨rfl,rfl,rfl,rfl⟩:=H
  go_enter Try.func18,Try.ntmps18
  go_wp2_with (first|((with_reducible refine gD 4 rfl ?_);refine bX 4 24 (aT ye yf yg yh yo yp yq yr ys ym yd.length yn) ?_;intro zu hg w34 hbox hb;have za:=aM (hbox);have zm:=gE (w:=w) hg (qB HB);have zb:=zm;replace HB:=bS (qB HB) hb;clear hb hbox hg)|((with_reducible refine gD 5 rfl ?_);refine bX 5 44 #[.int .i64 yc,.slice yi ya.length yj,.slice yk yb.length yl] ?_;intro zv hg w35 hbox hb;have zc:=aM (hbox);have zn:=gE (w:=w) hg (qB1 HB zb);have zd:=zn;replace HB:=bS (qB1 HB zb) hb;have zk:=nL hg za;have zl:=nG hg za;replace za:=bK za hb;clear hb hbox hg)|((with_reducible refine gD 6 rfl ?_);refine bX 6 44 #[.int .i64 0,.slice none 0 0,.slice none 0 0] ?_;intro zo hg w36 hbox hb;have ze:=aM (hbox);have zp:=gE (w:=w) hg (qB2 HB zb zd);have zj:=zp;replace HB:=bS (qB2 HB zb zd) hb;have zf:=nL hg za;have zg:=nG hg za;replace za:=bK za hb;have zh:=nL hg zc;have zi:=nG hg zc;replace zc:=bK zc hb;clear hb hbox hg;have hnb37:=zl.out;have hnc37:=zk.out;have hnb38:=zh.out;have hnc38:=zi.out;have hcz39:=blk3 zc.out;have hnb40:=zf.out;have hnc40:=zg.out;have hcz41:=blk10 za.out)|((with_reducible refine gC 45 rfl ?_);refine gL 36 Try.func45 #[.agg #[.int .i64 yc,.slice yi ya.length yj,.slice yk yb.length yl],.int .i64 ye,.int .i64 yf,.int .i64 yg,.int .i64 yh] ?_;(with_reducible refine(fcz.calls k yc _ _ ya _ _ yb ye yf yg yh zaf zag zah t273 _ ?s1 zr.out ?s3 zt.out A33.out).mono ?_);(case s1=>exact sC zq HB);(case s3=>exact sC zs HB);rintro e w42 ⟨v268,v271,rfl,ho0,ho1,hb⟩;refine⟨_,rfl,?_⟩;have z2:=aM (Kd.R_lower ho0 (below_size (qB3 HB zb zd zj)));have z3:=aM (Kd.R_lower ho1 (below_size (qB3 HB zb zd zj)));replace za:=bK za hb;replace zc:=bK zc hb;replace ze:=bK ze hb;replace HB:=bS (qB3 HB zb zd zj) hb;have hcz43:=blk3 ze.out;obtain⟨yal,yam,yan⟩:=Kd.R_slice z2.out;subst yan;obtain⟨yao,yap,yaq⟩:=Kd.R_slice z3.out;subst yaq))
  refine bodyPost_ret (results_ct rfl _ _ zo 44 #[.int .i64 zaf,.slice yal zag.length yam,.slice yao zah.length yap] (0,0) _ rfl (by exact P3 ze) Try.underlying44 rfl (by kernel_rfl)) rfl ?_
  exact⟨_,_,pE,by(with_reducible repeat(first|apply rA|apply rN|apply rD));exact F3 z2 ze (fun _ hk=>hk.1),by(with_reducible repeat(first|apply rA|apply rN|apply rD));exact F3 z3 ze (fun _ hk=>hk.1),qB3 HB zb zd zj⟩
 rw[iN c32] at H
 have y1:=bF c32
 have y2:=nT c32
 by_cases c46:a0=36
 ·rw[ip c46] at H
  have y3:=bT c46
  have y4:=nF c46
  clear c46
  replace H:=oB H
  obtain⟨⟨zaj,zak,zal,t281⟩,zam,H⟩:=H
  try dsimp only at H
  have A47:=aM zam
  clear zam
  replace H:=oi4 H
  obtain⟨rfl,rfl,rfl,rfl⟩:=H
  go_enter Try.func18,Try.ntmps18
  go_wp2_with (first|((with_reducible refine gD 4 rfl ?_);refine bX 4 24 (aT ye yf yg yh yo yp yq yr ys ym yd.length yn) ?_;intro zu hg w48 hbox hb;have za:=aM (hbox);have zm:=gE (w:=w) hg (qB HB);have zb:=zm;replace HB:=bS (qB HB) hb;clear hb hbox hg)|((with_reducible refine gD 5 rfl ?_);refine bX 5 44 #[.int .i64 yc,.slice yi ya.length yj,.slice yk yb.length yl] ?_;intro zv hg w49 hbox hb;have zc:=aM (hbox);have zn:=gE (w:=w) hg (qB1 HB zb);have zd:=zn;replace HB:=bS (qB1 HB zb) hb;have zk:=nL hg za;have zl:=nG hg za;replace za:=bK za hb;clear hb hbox hg)|((with_reducible refine gD 6 rfl ?_);refine bX 6 44 #[.int .i64 0,.slice none 0 0,.slice none 0 0] ?_;intro zo hg w50 hbox hb;have ze:=aM (hbox);have zp:=gE (w:=w) hg (qB2 HB zb zd);have zj:=zp;replace HB:=bS (qB2 HB zb zd) hb;have zf:=nL hg za;have zg:=nG hg za;replace za:=bK za hb;have zh:=nL hg zc;have zi:=nG hg zc;replace zc:=bK zc hb;clear hb hbox hg;have hnb51:=zl.out;have hnc51:=zk.out;have hnb52:=zh.out;have hnc52:=zi.out;have hcz53:=blk3 zc.out;have hnb54:=zf.out;have hnc54:=zg.out;have hcz55:=blk10 za.out)|((with_reducible refine gC 46 rfl ?_);refine gL 44 Try.func46 #[.agg #[.int .i64 yc,.slice yi ya.length yj,.slice yk yb.length yl],.slice ym yd.length yn] ?_;(with_reducible refine(fct.calls k yc _ _ ya _ _ yb _ _ yd zaj zak zal t281 _ ?s1 zr.out ?s3 zt.out ?s5 zx.out A47.out).mono ?_);(case s1=>exact sC zq HB);(case s3=>exact sC zs HB);(case s5=>exact sC zw HB);rintro e w56 ⟨v276,v279,rfl,ho0,ho1,hb⟩;refine⟨_,rfl,?_⟩;have z4:=aM (Kd.R_lower ho0 (below_size (qB3 HB zb zd zj)));have z5:=aM (Kd.R_lower ho1 (below_size (qB3 HB zb zd zj)));replace za:=bK za hb;replace zc:=bK zc hb;replace ze:=bK ze hb;replace HB:=bS (qB3 HB zb zd zj) hb;have hcz57:=blk3 ze.out;obtain⟨yar,yas,yat⟩:=Kd.R_slice z4.out;subst yat;obtain⟨yau,yav,yaw⟩:=Kd.R_slice z5.out;subst yaw))
  refine bodyPost_ret (results_ct rfl _ _ zo 44 #[.int .i64 zaj,.slice yar zak.length yas,.slice yau zal.length yav] (0,0) _ rfl (by exact P3 ze) Try.underlying44 rfl (by kernel_rfl)) rfl ?_
  exact⟨_,_,pE,by(with_reducible repeat(first|apply rA|apply rN|apply rD));exact F3 z4 ze (fun _ hk=>hk.1),by(with_reducible repeat(first|apply rA|apply rN|apply rD));exact F3 z5 ze (fun _ hk=>hk.1),qB3 HB zb zd zj⟩
 rw[iN c46] at H
 have y3:=bF c46
 have y4:=nT c46
 by_cases c60:a0=37
 rotate_left
 ·rw[iN c60] at H
  have y5:=bF c60
  have y6:=nT c60
  replace H:=oi4 H
  obtain⟨rfl,rfl,rfl,rfl⟩:=H
  go_enter Try.func18,Try.ntmps18
  go_wp2_with (first|((with_reducible refine gD 4 rfl ?_);refine bX 4 24 (aT ye yf yg yh yo yp yq yr ys ym yd.length yn) ?_;intro zu hg w74 hbox hb;have za:=aM (hbox);have zm:=gE (w:=w) hg (qB HB);have zb:=zm;replace HB:=bS (qB HB) hb;clear hb hbox hg)|((with_reducible refine gD 5 rfl ?_);refine bX 5 44 #[.int .i64 yc,.slice yi ya.length yj,.slice yk yb.length yl] ?_;intro zv hg w75 hbox hb;have zc:=aM (hbox);have zn:=gE (w:=w) hg (qB1 HB zb);have zd:=zn;replace HB:=bS (qB1 HB zb) hb;have zk:=nL hg za;have zl:=nG hg za;replace za:=bK za hb;clear hb hbox hg)|((with_reducible refine gD 6 rfl ?_);refine bX 6 44 #[.int .i64 0,.slice none 0 0,.slice none 0 0] ?_;intro zo hg w76 hbox hb;have ze:=aM (hbox);have zp:=gE (w:=w) hg (qB2 HB zb zd);have zj:=zp;replace HB:=bS (qB2 HB zb zd) hb;have zf:=nL hg za;have zg:=nG hg za;replace za:=bK za hb;have zh:=nL hg zc;have zi:=nG hg zc;replace zc:=bK zc hb;clear hb hbox hg;have hnb77:=zg.out;have hnc77:=zf.out;have hnb78:=zi.out;have hnc78:=zh.out;have hcz79:=blk3 ze.out))
  refine bodyPost_ret (results_ct rfl _ _ zo 44 #[.int .i64 0,.slice none 0 0,.slice none 0 0] (0,0) _ rfl (by exact P3 ze) Try.underlying44 rfl (by kernel_rfl)) rfl ?_
  exact⟨_,_,pE,pN,pN,qB3 HB zb zd zj⟩
 rw[ip c60] at H
 have y5:=bT c60
 have y6:=nF c60
 clear c60
 replace H:=oB H
 obtain⟨⟨zan,zao,zap,t289⟩,zaq,H⟩:=H
 try dsimp only at H
 have A61:=aM zaq
 clear zaq
 replace H:=oi4 H
 obtain⟨rfl,rfl,rfl,rfl⟩:=H
 go_enter Try.func18,Try.ntmps18
 go_wp2_with (first|((with_reducible refine gD 4 rfl ?_);refine bX 4 24 (aT ye yf yg yh yo yp yq yr ys ym yd.length yn) ?_;intro zu hg w62 hbox hb;have za:=aM (hbox);have zm:=gE (w:=w) hg (qB HB);have zb:=zm;replace HB:=bS (qB HB) hb;clear hb hbox hg)|((with_reducible refine gD 5 rfl ?_);refine bX 5 44 #[.int .i64 yc,.slice yi ya.length yj,.slice yk yb.length yl] ?_;intro zv hg w63 hbox hb;have zc:=aM (hbox);have zn:=gE (w:=w) hg (qB1 HB zb);have zd:=zn;replace HB:=bS (qB1 HB zb) hb;have zk:=nL hg za;have zl:=nG hg za;replace za:=bK za hb;clear hb hbox hg)|((with_reducible refine gD 6 rfl ?_);refine bX 6 44 #[.int .i64 0,.slice none 0 0,.slice none 0 0] ?_;intro zo hg w64 hbox hb;have ze:=aM (hbox);have zp:=gE (w:=w) hg (qB2 HB zb zd);have zj:=zp;replace HB:=bS (qB2 HB zb zd) hb;have zf:=nL hg za;have zg:=nG hg za;replace za:=bK za hb;have zh:=nL hg zc;have zi:=nG hg zc;replace zc:=bK zc hb;clear hb hbox hg;have hnb65:=zl.out;have hnc65:=zk.out;have hnb66:=zh.out;have hnc66:=zi.out;have hcz67:=blk3 zc.out;have hnb68:=zf.out;have hnc68:=zg.out;have hcz69:=blk10 za.out)|((with_reducible refine gC 47 rfl ?_);refine gL 52 Try.func47 #[.agg #[.int .i64 yc,.slice yi ya.length yj,.slice yk yb.length yl],.int .i64 ye] ?_;(with_reducible refine(fcu.calls k yc _ _ ya _ _ yb ye zan zao zap t289 _ ?s1 zr.out ?s3 zt.out A61.out).mono ?_);(case s1=>exact sC zq HB);(case s3=>exact sC zs HB);rintro e w70 ⟨v284,v287,rfl,ho0,ho1,hb⟩;refine⟨_,rfl,?_⟩;have z6:=aM (Kd.R_lower ho0 (below_size (qB3 HB zb zd zj)));have z7:=aM (Kd.R_lower ho1 (below_size (qB3 HB zb zd zj)));replace za:=bK za hb;replace zc:=bK zc hb;replace ze:=bK ze hb;replace HB:=bS (qB3 HB zb zd zj) hb;have hcz71:=blk3 ze.out;obtain⟨yax,yay,yaz⟩:=Kd.R_slice z6.out;subst yaz;obtain⟨ya0,ya1,ya2⟩:=Kd.R_slice z7.out;subst ya2))
 refine bodyPost_ret (results_ct rfl _ _ zo 44 #[.int .i64 zan,.slice yax zao.length yay,.slice ya0 zap.length ya1] (0,0) _ rfl (by exact P3 ze) Try.underlying44 rfl (by kernel_rfl)) rfl ?_
 exact⟨_,_,pE,by(with_reducible repeat(first|apply rA|apply rN|apply rD));exact F3 z6 ze (fun _ hk=>hk.1),by(with_reducible repeat(first|apply rA|apply rN|apply rD));exact F3 z7 ze (fun _ hk=>hk.1),qB3 HB zb zd zj⟩
def fda.f (k:Nat) (l0:List Int):Option (Int×List Int×List Int):=(fcg.f l0).bind fun zc=>(if zc=0 then((fcn.f l0).bind fun zf=>((fcl.f k l0).bind fun zg=>(some (0,zf,zg))))else(some (0,([]:List Int),([]:List Int))))
theorem fda.calls (k:Nat)(A0:Option Addr)(c0:Nat)(l0:List Int)(r1:Int)(r2 r3:List Int)(w:World)(hr0:Kd.C (Kd.int .i64) w A0 l0.length l0)(hc0:l0.length≤c0)(h:fda.f k l0=some (r1,r2,r3)) :
  Calls Try.prog 35 #[.slice A0 l0.length c0] w fun e w'=>∃ v1_ v2_:Value,e=.returned (.agg #[.int .i64 r1,v1_,v2_])∧Kd.R (Kd.int .i64) 3 w' w.heap.size (fun k_=>some k_≠(v2_:Value).ownBlock) v1_ r2∧Kd.R (Kd.int .i64) 3 w' w.heap.size (fun k_=>some k_≠(v1_:Value).ownBlock) v2_ r3∧Below w.heap.size w w':=by
 have hu44:=Try.underlying44
 have HR0:=aM hr0
 have HC0:=aM hc0
 clear hr0 hc0
 have HB:=aM (Below.refl w.heap.size w)
 have H:((fcg.f l0).bind fun zc=>(if zc=0 then((fcn.f l0).bind fun zf=>((fcl.f k l0).bind fun zg=>(some (0,zf,zg))))else(some (0,([]:List Int),([]:List Int)))))=some (r1,r2,r3):=h
 clear h
 replace H:=oB H
 obtain⟨zc,A20,H⟩:=H
 try dsimp only at H
 have A2:=aM A20
 clear A20
 by_cases c3:zc=0
 rotate_left
 ·rw[iN c3] at H
  have ya:=bF c3
  have yb:=nT c3
  replace H:=oi3 H
  obtain⟨rfl,rfl,rfl⟩:=H
  go_enter Try.func35,Try.ntmps35
  go_wp2_with (first|((with_reducible refine gD 2 rfl ?_);refine bX 2 44 #[.int .i64 0,.slice none 0 0,.slice none 0 0] ?_;intro zd hg w12 hbox hb;have za:=aM (hbox);have zh:=gE (w:=w) hg (qB HB);have zb:=zh;replace HB:=bS (qB HB) hb;clear hb hbox hg)|((with_reducible refine gC 31 rfl ?_);refine gL 4 Try.func31 #[.slice A0 l0.length c0] ?_;(with_reducible refine(fcg.calls _ _ l0 zc _ ?s1 HC0.out A2.out).mono ?_);(case s1=>exact sC HR0 HB);rintro e w' ⟨rfl,⟨nd,rfl⟩⟩;refine⟨_,rfl,?_⟩;(try (rw[drewN_self w12];generalize hq_:World.drewN w12 _=w12;have n0_:Aside0 (w12.heap[zd]?=some (.cells #[.int .i64 0,.slice none 0 0,.slice none 0 0] 44 (0,0))):=⟨by rw[← hq_];exact(pK za.out)⟩;have n1_:Aside0 (Below w.heap.size w w12):=⟨by rw[← hq_];exact(qB1 HB zb)⟩;clear za HB hq_;have za:=n0_;have HB:=n1_;clear n0_ n1_));have hcz13:=blk3 za.out))
  refine bodyPost_ret (results_cell_row rfl _ _ zd 44 #[.int .i64 0,.slice none 0 0,.slice none 0 0] (0,0) _ rfl (by exact P3 za) Try.underlying44 rfl (by kernel_rfl)) rfl ?_
  exact⟨_,_,pE,pN,pN,qB1 HB zb⟩
 rw[ip c3] at H
 have ya:=bT c3
 have yb:=nF c3
 clear c3
 replace H:=oB H
 obtain⟨zf,A40,H⟩:=H
 try dsimp only at H
 have A4:=aM A40
 clear A40
 replace H:=oB H
 obtain⟨zg,A50,H⟩:=H
 try dsimp only at H
 have A5:=aM A50
 clear A50
 replace H:=oi3 H
 obtain⟨rfl,rfl,rfl⟩:=H
 go_enter Try.func35,Try.ntmps35
 go_wp2_with (first|((with_reducible refine gD 2 rfl ?_);refine bX 2 44 #[.int .i64 0,.slice none 0 0,.slice none 0 0] ?_;intro zd hg w6 hbox hb;have za:=aM (hbox);have zh:=gE (w:=w) hg (qB HB);have zb:=zh;replace HB:=bS (qB HB) hb;clear hb hbox hg)|((with_reducible refine gC 31 rfl ?_);refine gL 4 Try.func31 #[.slice A0 l0.length c0] ?_;(with_reducible refine(fcg.calls _ _ l0 zc _ ?s1 HC0.out A2.out).mono ?_);(case s1=>exact sC HR0 HB);rintro e w' ⟨rfl,⟨nd,rfl⟩⟩;refine⟨_,rfl,?_⟩;(try (rw[drewN_self w6];generalize hq_:World.drewN w6 _=w6;have n0_:Aside0 (w6.heap[zd]?=some (.cells #[.int .i64 0,.slice none 0 0,.slice none 0 0] 44 (0,0))):=⟨by rw[← hq_];exact(pK za.out)⟩;have n1_:Aside0 (Below w.heap.size w w6):=⟨by rw[← hq_];exact(qB1 HB zb)⟩;clear za HB hq_;have za:=n0_;have HB:=n1_;clear n0_ n1_)))|((with_reducible refine gC 42 rfl ?_);refine gL 8 Try.func42 #[.slice A0 l0.length c0] ?_;(with_reducible refine(fcn.calls _ _ l0 zf _ ?s1 HC0.out A4.out).mono ?_);(case s1=>exact sC HR0 HB);rintro e w7 ⟨v321,rfl,ho0,hb⟩;refine⟨_,rfl,?_⟩;have ze:=aM (Kd.R_lower ho0 (below_size (qB1 HB zb)));replace za:=bK za hb;replace HB:=bS (qB1 HB zb) hb)|((with_reducible refine gC 62 rfl ?_);refine gL 10 Try.func62 #[.slice A0 l0.length c0] ?_;(with_reducible refine(fcl.calls k _ _ l0 zg _ ?s1 HC0.out A5.out).mono ?_);(case s1=>exact sC HR0 HB);rintro e w8 ⟨v324,rfl,ho0,hb⟩;refine⟨_,rfl,?_⟩;have zi:=aM (Kd.R_lower (Kd.R_new' ho0 (Kd.R_lt (pR ze.out))) (below_size (qB1 HB zb)));replace ze:=eR ze ho0 hb;replace za:=bK za hb;replace HB:=bS (qB1 HB zb) hb;obtain⟨Ao9,co9,eo9⟩:=Kd.R_slice zi.out;subst eo9;obtain⟨yc,yd,ye⟩:=Kd.R_slice ze.out;subst ye;have hcz11:=blk3 za.out))
 refine bodyPost_ret (results_cell_row rfl _ _ zd 44 #[.int .i64 0,.slice yc zf.length yd,.slice Ao9 zg.length co9] (0,0) _ rfl (by exact P3 za) Try.underlying44 rfl (by kernel_rfl)) rfl ?_
 exact⟨_,_,pE,by(with_reducible repeat(first|apply rA|apply rN|apply rD));exact F3 ze za (fun _ hk=>hk.1.2),by(with_reducible repeat(first|apply rA|apply rN|apply rD));exact F3 zi za (fun _ hk=>hk.1.2),qB1 HB zb⟩
mutual
def fbt.j0:Nat→Int→List (List Int)→Bool→Int→Int→Int→Int→Int→Int→Int→Int→Bool→List Int→Option (List Int×Int)
 | 0,_,_,_,_,_,_,_,_,_,_,_,_,_=>none
 | k+1,x0,x2,x31,zl,zm,zn,zo,zp,zq,zr,zs,zt,zu=>if x31=true then(some (([]:List Int),1))else(fbt.l0 k x0 x2 x2 (x2.length:Int) 0 zl zm zn zo zp zq zr zs zt zu)
def fbt.l0:Nat→Int→List (List Int)→List (List Int)→Int→Int→Int→Int→Int→Int→Int→Int→Int→Int→Bool→List Int→Option (List Int×Int)
 | 0,_,_,_,_,_,_,_,_,_,_,_,_,_,_,_=>none
 | k+1,x0,x2,x32,x33,x34,zl,zm,zn,zo,zp,zq,zr,zs,zt,zu=>if x34<x33 then(if 0≤x34 then(if x34<(x32.length:Int)then((fcg.f (rd_L1 x32 x34)).bind fun zz=>(if zz=0 then(fbt.l0 k x0 x2 x32 x33 (wrap64 (x34+1)) zl zm zn zo zp zq zr zs zt zu)else(some (([]:List Int),zz))))else(none))else(none))else(if x0=38 then(if 0<(x2.length:Int)then((fby.f k (rd_L1 x2 0) zl zm zn zo zp zq zr zs zt zu).bind fun bt331=>(some (bt331.1,bt331.2)))else(none))else(if x0=39 then(if 0<(x2.length:Int)then((fbx.f k (rd_L1 x2 0) zl zm zn zo zp zq zr zs zt zu).bind fun bt336=>(some (bt336.1,bt336.2)))else(none))else(if x0=40 then(if 0<(x2.length:Int)then(if 1<(x2.length:Int)then((fbw.f k (rd_L1 x2 0) (rd_L1 x2 1) zl).bind fun bt342=>(some (bt342.1,bt342.2)))else(none))else(none))else(if 0<(x2.length:Int)then((fda.f k (rd_L1 x2 0)).bind fun bt347=>((fbv.f k x0 zl zm zn zo zp zq zr zs zt zu bt347.1 bt347.2.1 bt347.2.2).bind fun bt354=>(some (bt354.2.1,bt354.2.2.2))))else(none)))))
end
def fbt.f (k:Nat) (a0 yc yd ye yf yg yh yi yj:Int)(yk:Bool)(yb:List Int)(l2:List (List Int)):Option (List Int×Int):=(fbu.f a0).bind fun zak=>(if zak=true then(if(l2.length:Int)=1 then(if a0=40 then(fbt.j0 k a0 l2 ((l2.length:Int) != 2) yc yd ye yf yg yh yi yj yk yb)else(fbt.j0 k a0 l2 false yc yd ye yf yg yh yi yj yk yb))else(if a0=40 then(fbt.j0 k a0 l2 ((l2.length:Int) != 2) yc yd ye yf yg yh yi yj yk yb)else(fbt.j0 k a0 l2 true yc yd ye yf yg yh yi yj yk yb)))else(some (([]:List Int),14)))
def fbt.T14:TT:=(true,[([],[]),([0],[0]),([1],[1]),([],[]),([2,3],[2,3]),([4],[4]),([4],[4]),([5,4,0,1,2,3,4,5,6],[5]),([6,7,0,1,2,3,4,5,6,7],[6])])
def fbt.B14:List Nat:=[0,1,3,0,15,31,31,127,255]
theorem fbt.tab14:rtab .any (opsOf Try.f10 14)=fbt.T14:=by kernel_rfl
theorem fbt.bits14:waitsOk fbt.T14.2 fbt.B14=true:=by kernel_rfl
def fbt.T16:TT:=(true,[([],[]),([0],[0]),([1],[1]),([],[]),([2,3],[2,3]),([4],[4]),([4],[4]),([5,4,0,1,2,3,4,5,6],[5]),([6,7,0,1,2,3,4,5,6,7],[6])])
def fbt.B16:List Nat:=[0,1,3,0,15,31,31,127,255]
theorem fbt.tab16:rtab .any (opsOf Try.f10 16)=fbt.T16:=by kernel_rfl
theorem fbt.bits16:waitsOk fbt.T16.2 fbt.B16=true:=by kernel_rfl
def fbt.T18:TT:=(true,[([],[]),([0],[0]),([1],[1]),([],[]),([3],[3]),([4],[4]),([],[]),([6],[6]),([2,5,7],[2,5,7]),([8],[8]),([8],[8]),([9,8,0,1,2,3,4,5,6,7,8,9,10],[9]),([10,11,0,1,2,3,4,5,6,7,8,9,10,11],[10])])
def fbt.B18:List Nat:=[0,1,3,0,8,24,0,64,255,511,511,2047,4095]
theorem fbt.tab18:rtab .any (opsOf Try.f10 18)=fbt.T18:=by kernel_rfl
theorem fbt.bits18:waitsOk fbt.T18.2 fbt.B18=true:=by kernel_rfl
def fbt.T19:TT:=(true,[([],[]),([],[]),([],[]),([2],[2]),([3],[3]),([4],[4]),([0,1,5,5],[0,1,5]),([6],[6]),([7],[7]),([7],[7]),([],[]),([10,8,6,0,1,2,3,4,5,6,7,8,10],[8,10]),([9,11,0,1,2,3,4,5,6,7,8,9,10,11],[9])])
def fbt.B19:List Nat:=[0,0,0,4,12,28,63,127,255,255,0,1535,4095]
theorem fbt.tab19:rtab .any (opsOf Try.f10 19)=fbt.T19:=by kernel_rfl
theorem fbt.bits19:waitsOk fbt.T19.2 fbt.B19=true:=by kernel_rfl
theorem fbt.calls (k:Nat) (a0 yc yd ye yf yg yh yi yj:Int)(yk:Bool)(ym:Option Addr)(yn:Nat)(yb:List Int)(A2:Option Addr)(c2:Nat)(l2:List (List Int))(r1:List Int)(r2:Int)(w:World)(yat:Kd.C (Kd.int .i64) w ym yb.length yb)(yau:yb.length≤yn)(hr2:Kd.C (Kd.slice 3 (Kd.int .i64)) w A2 l2.length l2)(hc2:l2.length≤c2)(h:fbt.f k a0 yc yd ye yf yg yh yi yj yk yb l2=some (r1,r2)) :
  Calls Try.prog 10 #[.int .i64 a0,.agg #[.int .i64 yc,.int .i64 yd,.int .i64 ye,.int .i64 yf,.int .i64 yg,.int .i64 yh,.int .i64 yi,.int .i64 yj,.bool yk,.slice ym yb.length yn],.slice A2 l2.length c2] w fun e w'=>∃ v0_:Value,e=.returned (.tuple #[v0_,.int .i64 r2])∧Kd.R (Kd.int .i64) 3 w' w.heap.size (fun _=>True) v0_ r1∧Below w.heap.size w w':=by
 have hu24:=Try.underlying24
 have hu44:=Try.underlying44
 have z6:=aM yat
 have z7:=aM yau
 clear yat yau
 have HR2:=aM hr2
 have HC2:=aM hc2
 clear hr2 hc2
 have HB:=aM (Below.refl w.heap.size w)
 have H:((fbu.f a0).bind fun zak=>(if zak=true then(if(l2.length:Int)=1 then(if a0=40 then(fbt.j0 k a0 l2 ((l2.length:Int) != 2) yc yd ye yf yg yh yi yj yk yb)else(fbt.j0 k a0 l2 false yc yd ye yf yg yh yi yj yk yb))else(if a0=40 then(fbt.j0 k a0 l2 ((l2.length:Int) != 2) yc yd ye yf yg yh yi yj yk yb)else(fbt.j0 k a0 l2 true yc yd ye yf yg yh yi yj yk yb)))else(some (([]:List Int),14))))=some (r1,r2):=h
 clear h
 replace H:=oB H
 obtain⟨zak,A40,H⟩:=H
 try dsimp only at H
 have A4:=aM A40
 clear A40
 by_cases c5:zak=true
 rotate_left
 ·replace c5:=Bool.eq_false_iff.mpr c5
  subst c5
  rw[iN fT] at H
  replace H:=oi2 H
  obtain⟨rfl,rfl⟩:=H
  go_enter Try.func10,Try.ntmps10
  go_wp2_with (first|((with_reducible refine gD 4 rfl ?_);(try (refine gate_guard (by rfl) ?_;dsimp only));refine bX 4 24 (aT yc yd ye yf yg yh yi yj yk ym yb.length yn) ?_;intro zc hg w50 hbox hb;have za:=aM (hbox);have zal:=gE (w:=w) hg (qB HB);have ze:=zal;replace HB:=bS (qB HB) hb;clear hb hbox hg)|((with_reducible refine gC 13 rfl ?_);refine gL 14 Try.func13 #[.int .i64 a0] ?_;(with_reducible refine(fbu.calls a0 false _ A4.out).mono ?_);rintro e w' ⟨rfl,⟨nd,rfl⟩⟩;refine⟨_,rfl,?_⟩))
  go_ret2
  exact⟨_,pE,pN,qB1 HB ze⟩
 subst c5
 rw[ip rfl] at H
 have HC6:=aM H
 clear H
 go_enter Try.func10,Try.ntmps10
 go_upto_region 3 with(first|((with_reducible refine gD 4 rfl ?_);(try (refine gate_guard (by rfl) ?_;dsimp only));refine bX 4 24 (aT yc yd ye yf yg yh yi yj yk ym yb.length yn) ?_;intro zc hg w7 hbox hb;have za:=aM (hbox);have zal:=gE (w:=w) hg (qB HB);have ze:=zal;replace HB:=bS (qB HB) hb;clear hb hbox hg)|((with_reducible refine gC 13 rfl ?_);refine gL 14 Try.func13 #[.int .i64 a0] ?_;(with_reducible refine(fbu.calls a0 true _ A4.out).mono ?_);rintro e w' ⟨rfl,⟨nd,rfl⟩⟩;refine⟨_,rfl,?_⟩))
 (try simp only[Act.put,sP])
 go_cut [31] (fun v31 wc=>∃ (kq:Nat) (y4:Bool),v31=.bool y4∧Aside0 (fbt.j0 kq a0 l2 y4 yc yd ye yf yg yh yi yj yk yb=some (r1,r2))∧Aside0 (kq≤k)∧Aside0 (wc.heap[zc]?=some (.cells (aT yc yd ye yf yg yh yi yj yk ym yb.length yn) 24 (0,0)))∧Aside0 (Below w.heap.size w wc))
 case first =>
  have H:=HC6.out
  clear HC6
  by_cases c8:(l2.length:Int)=1
  rotate_left
  ·rw[iN c8] at H
   have zam:=bF c8
   have ybd:=nT c8
   (first|rw[zam]|(simp only[i64_w,i32_w];rw[zam])|skip)
   by_cases c10:a0=40
   rotate_left
   ·rw[iN c10] at H
    have yay:=bF c10
    have yaz:=nT c10
    have H':=aM H
    clear H
    go_wp2
    go_meet
    case rel=>exact⟨_,(true),(pF),H',⟨pO⟩,⟨pK za.out⟩,⟨qB1 HB ze⟩⟩
   rw[ip c10] at H
   have yay:=bT c10
   have yaz:=nF c10
   clear c10
   have H':=aM H
   clear H
   go_wp2
   go_meet
   case rel=>exact⟨_,(((l2.length:Int) != 2)),(pF),H',⟨pO⟩,⟨pK za.out⟩,⟨qB1 HB ze⟩⟩
  rw[ip c8] at H
  have zam:=bT c8
  have ybd:=nF c8
  clear c8
  (first|rw[zam]|(simp only[i64_w,i32_w];rw[zam])|skip)
  by_cases c9:a0=40
  rotate_left
  ·rw[iN c9] at H
   have ybe:=bF c9
   have ybf:=nT c9
   have H':=aM H
   clear H
   go_wp2
   go_meet
   case rel=>exact⟨_,(false),(pF),H',⟨pO⟩,⟨pK za.out⟩,⟨qB1 HB ze⟩⟩
  rw[ip c9] at H
  have ybe:=bT c9
  have ybf:=nF c9
  clear c9
  have H':=aM H
  clear H
  go_wp2
  go_meet
  case rel=>exact⟨_,(((l2.length:Int) != 2)),(pF),H',⟨pO⟩,⟨pK za.out⟩,⟨qB1 HB ze⟩⟩
 clear HC6
 try clear c2
 try clear c5
 obtain⟨kq,y4,rfl,HA,HJ5,za,HB⟩:=hcut
 cases kq with
 | zero=>exact absurd HA.out (by simp[fbt.j0])
 | succ kj5=>?_
 have H:=HA.out
 clear HA
 simp only[fbt.j0] at H
 by_cases c11:y4=true
 ·subst c11
  rw[ip rfl] at H
  replace H:=oi2 H
  obtain⟨rfl,rfl⟩:=H
  go_wp2
  go_ret2
  exact⟨_,pE,pN,qB1 HB ze⟩
 replace c11:=Bool.eq_false_iff.mpr c11
 subst c11
 rw[iN fT] at H
 have H':=aM H
 clear H
 go_wp2
 go_loopg [34] kj5 (fun kq v34 w'=>∃ (yl:Int),v34=.int .i64 yl∧Aside0 (fbt.l0 kq a0 l2 l2 (l2.length:Int) yl yc yd ye yf yg yh yi yj yk yb=some (r1,r2))∧Aside0 (kq≤kj5)∧Aside0 (w'.heap[zc]?=some (.cells (aT yc yd ye yf yg yh yi yj yk ym yb.length yn) 24 (0,0)))∧Aside0 (Below w.heap.size w w'))
 case atStart=>exact⟨(0),(pF),H',⟨Nat.le_refl _⟩,⟨pK za.out⟩,⟨qB1 HB ze⟩⟩
 clear H'
 try clear c11
 obtain⟨yl,rfl,HA,HK2,za,HB⟩:=hrel
 cases gk with
 | zero=>exact absurd HA.out (by simp[fbt.l0])
 | succ k2=>?_
 have H:=HA.out
 clear HA
 simp only[fbt.l0] at H
 by_cases c12:yl<(l2.length:Int)
 ·rw[ip c12] at H
  have ya0:=dT c12
  clear c12
  by_cases c13:0≤yl
  rotate_left
  ·rw[iN c13] at H
   cases H
  rw[ip c13] at H
  have c13b0:=dT c13
  clear c13
  by_cases c14:yl<(l2.length:Int)
  rotate_left
  ·rw[iN c14] at H
   cases H
  rw[ip c14] at H
  have c14b0:=dT c14
  clear c14
  replace H:=oB H
  obtain⟨zz,zas,H⟩:=H
  try dsimp only at H
  have A15:=aM zas
  clear zas
  by_cases c16:zz=0
  rotate_left
  ·rw[iN c16] at H
   have ya1:=bF c16
   have ya2:=nT c16
   replace H:=oi2 H
   obtain⟨rfl,rfl⟩:=H
   have yav:0≤(yl:Int):=oD
   have yaw:yl<(l2.length:Int):=oD
   obtain⟨ya3,y2,y3,yax,yt,yu,yv⟩:=at_L1 HR2.out yl yav yaw
   cases yax
   replace yt:=zW HB yt
   have z2:=aM yv
   have z3:=aM yu
   clear yv yu
   go_wp2_with (first|((with_reducible refine gC 31 rfl ?_);refine gL 39 Try.func31 #[.slice y2 (rd_L1 l2 yl).length y3] ?_;(with_reducible refine(fcg.calls _ _ (rd_L1 l2 yl) zz _ ?s1 z3.out A15.out).mono ?_);(case s1=>exact sC z2 HB);rintro e w' ⟨rfl,⟨nd,rfl⟩⟩;refine⟨_,rfl,?_⟩))
   go_ret2
   exact⟨_,pE,pN,qB1 HB ze⟩
  rw[ip c16] at H
  have ya1:=bT c16
  have ya2:=nF c16
  clear c16
  have H':=aM H
  clear H
  have yav:0≤(yl:Int):=oD
  have yaw:yl<(l2.length:Int):=oD
  obtain⟨ya3,y2,y3,yax,yt,yu,yv⟩:=at_L1 HR2.out yl yav yaw
  cases yax
  replace yt:=zW HB yt
  have z2:=aM yv
  have z3:=aM yu
  clear yv yu
  go_wp2_with (first|((with_reducible refine gC 31 rfl ?_);refine gL 39 Try.func31 #[.slice y2 (rd_L1 l2 yl).length y3] ?_;(with_reducible refine(fcg.calls _ _ (rd_L1 l2 yl) zz _ ?s1 z3.out A15.out).mono ?_);(case s1=>exact sC z2 HB);rintro e w' ⟨rfl,⟨nd,rfl⟩⟩;refine⟨_,rfl,?_⟩))
  go_roundg k2
  case measure=>have:=HJ5.out;have:=HK2.out;omega
  case rel=>exact⟨(wrap64 (yl+1)),(pF),H',⟨pO2 HJ5 HK2⟩,⟨pK za.out⟩,⟨qB1 HB ze⟩⟩
 rw[iN c12] at H
 have ya0:=dF c12
 clear c12
 by_cases c17:a0=38
 ·rw[ip c17] at H
  have ya4:=bT c17
  have ya5:=nF c17
  clear c17
  by_cases c18:0<(l2.length:Int)
  rotate_left
  ·rw[iN c18] at H
   cases H
  rw[ip c18] at H
  have c18b0:=dT c18
  have c18b1:decide (0<l2.length)=true:=decide_eq_true (by omega)
  clear c18
  replace H:=oB H
  obtain⟨⟨t331,t334⟩,zat,H⟩:=H
  try dsimp only at H
  have A19:=aM zat
  clear zat
  replace H:=oi2 H
  obtain⟨rfl,rfl⟩:=H
  try go_wp2
  replace za:=aM (blk_drew za.out)
  replace HB:=aM (below_drew1 HB.out)
  have ybg:0≤(0:Int):=(by omega)
  have ybh:0<(l2.length:Int):=oD
  obtain⟨ya6,yag,yah,ybi,yo,y5,y6⟩:=at_L1 HR2.out 0 ybg ybh
  have yw:=yo
  (try rw[show ((0:Int)).toNat=0 from rfl] at yw)
  (try rw[show 0*1=0 from rfl] at yw)
  (try rw[Addr.add_zero'] at yw)
  cases ybi
  have qi330:(0<l2.length)=True:=eq_true (by omega)
  (try rw[show ((0:Int)).toNat=0 from rfl] at yo)
  (try rw[Addr.add_zero'] at yo)
  replace yo:=zW HB yo
  have zab:=aM y6
  have yap:=aM y5
  clear y6 y5
  refine sT 9 [] (fun w'=>w'.cell? ⟨zc,0,none⟩=some (.int .i64 yc)∧w'.cell? ⟨zc,1,none⟩=some (.int .i64 yd)∧w'.cell? ⟨zc,2,none⟩=some (.int .i64 ye)∧w'.cell? ⟨zc,3,none⟩=some (.int .i64 yf)∧w'.cell? ⟨zc,4,none⟩=some (.int .i64 yg)∧w'.cell? ⟨zc,5,none⟩=some (.int .i64 yh)∧w'.cell? ⟨zc,6,none⟩=some (.int .i64 yi)∧w'.cell? ⟨zc,7,none⟩=some (.int .i64 yj)∧w'.cell? ⟨zc,8,none⟩=some (.bool yk)∧w'.cell? ⟨zc,9,none⟩=some (.slice ym yb.length yn)∧w'.cell? ya6=some (.slice yag (rd_L1 l2 0).length yah)) fbt.tab14 fbt.bits14 (c10 za (zW HB yw)) (fun hHeld HT_ HW_=>?_)
  generalize wr.drew=w20 at za HB zab yo hHeld ⊢
  refine pQ 0 47 9 1 HT_ ?_
  refine pQ 1 48 9 3 HT_ ?_
  refine pU11 2 49 9 7 HT_ HW_ hHeld ?_
  refine pU11 3 50 9 15 HT_ HW_ hHeld ?_
  refine oN 4 51 9 31 HT_ (fun K hK=>?_)
  refine gS Try.func32 #[.slice yag (rd_L1 l2 0).length yah,.agg (aT yc yd ye yf yg yh yi yj yk ym yb.length yn)] ?_
  with_reducible refine(fby.calls k2 _ _ (rd_L1 l2 0) yc yd ye yf yg yh yi yj yk _ _ yb t331 t334 _ ?s1 yap.out ?s3 z7.out A19.out).mono ?_
  (case s1=>exact sC zab HB)
  (case s3=>exact sC z6 HB)
  rintro e w21 ⟨v332,rfl,ho0,hb⟩
  refine⟨_,rfl,?_⟩
  have HO333:=aM (Kd.R_lower ho0 (below_size (qB1 HB ze)))
  replace za:=bK za hb
  replace HB:=bS (qB1 HB ze) hb
  refine hK.out _ _ (c10 za (zW HB yw)) (fun hHeld=>?_)
  clear hK K
  refine nM 51 ?_
  refine pQ 5 52 9 63 HT_ ?_
  refine pQ 6 53 9 127 HT_ ?_
  refine pQ 7 6 9 255 HT_ ?_
  refine pQ 8 7 9 511 HT_ ?_
  refine dN HT_ ?_
  try go_wp2
  go_ret2
  exact⟨_,pE,pR HO333.out,qB1 HB ze⟩
 rw[iN c17] at H
 have ya4:=bF c17
 have ya5:=nT c17
 by_cases c22:a0=39
 ·rw[ip c22] at H
  have ya7:=bT c22
  have ya8:=nF c22
  clear c22
  by_cases c23:0<(l2.length:Int)
  rotate_left
  ·rw[iN c23] at H
   cases H
  rw[ip c23] at H
  have c23b0:=dT c23
  have c23b1:decide (0<l2.length)=true:=decide_eq_true (by omega)
  clear c23
  replace H:=oB H
  obtain⟨⟨t336,t339⟩,zau,H⟩:=H
  try dsimp only at H
  have A24:=aM zau
  clear zau
  replace H:=oi2 H
  obtain⟨rfl,rfl⟩:=H
  try go_wp2
  replace za:=aM (blk_drew za.out)
  replace HB:=aM (below_drew1 HB.out)
  have ybj:0≤(0:Int):=(by omega)
  have ybk:0<(l2.length:Int):=oD
  obtain⟨ya9,yai,yaj,ybl,yp,y7,y8⟩:=at_L1 HR2.out 0 ybj ybk
  have yx:=yp
  (try rw[show ((0:Int)).toNat=0 from rfl] at yx)
  (try rw[show 0*1=0 from rfl] at yx)
  (try rw[Addr.add_zero'] at yx)
  cases ybl
  have qi335:(0<l2.length)=True:=eq_true (by omega)
  (try rw[show ((0:Int)).toNat=0 from rfl] at yp)
  (try rw[Addr.add_zero'] at yp)
  replace yp:=zW HB yp
  have zac:=aM y8
  have yaq:=aM y7
  clear y8 y7
  refine sT 9 [] (fun w'=>w'.cell? ⟨zc,0,none⟩=some (.int .i64 yc)∧w'.cell? ⟨zc,1,none⟩=some (.int .i64 yd)∧w'.cell? ⟨zc,2,none⟩=some (.int .i64 ye)∧w'.cell? ⟨zc,3,none⟩=some (.int .i64 yf)∧w'.cell? ⟨zc,4,none⟩=some (.int .i64 yg)∧w'.cell? ⟨zc,5,none⟩=some (.int .i64 yh)∧w'.cell? ⟨zc,6,none⟩=some (.int .i64 yi)∧w'.cell? ⟨zc,7,none⟩=some (.int .i64 yj)∧w'.cell? ⟨zc,8,none⟩=some (.bool yk)∧w'.cell? ⟨zc,9,none⟩=some (.slice ym yb.length yn)∧w'.cell? ya9=some (.slice yai (rd_L1 l2 0).length yaj)) fbt.tab16 fbt.bits16 (c10 za (zW HB yx)) (fun hHeld HT_ HW_=>?_)
  generalize wr.drew=w25 at za HB zac yp hHeld ⊢
  refine pQ 0 56 9 1 HT_ ?_
  refine pQ 1 57 9 3 HT_ ?_
  refine pU11 2 58 9 7 HT_ HW_ hHeld ?_
  refine pU11 3 59 9 15 HT_ HW_ hHeld ?_
  refine oN 4 60 9 31 HT_ (fun K hK=>?_)
  refine gS Try.func33 #[.slice yai (rd_L1 l2 0).length yaj,.agg (aT yc yd ye yf yg yh yi yj yk ym yb.length yn)] ?_
  with_reducible refine(fbx.calls k2 _ _ (rd_L1 l2 0) yc yd ye yf yg yh yi yj yk _ _ yb t336 t339 _ ?s1 yaq.out ?s3 z7.out A24.out).mono ?_
  (case s1=>exact sC zac HB)
  (case s3=>exact sC z6 HB)
  rintro e w26 ⟨v337,rfl,ho0,hb⟩
  refine⟨_,rfl,?_⟩
  have HO338:=aM (Kd.R_lower ho0 (below_size (qB1 HB ze)))
  replace za:=bK za hb
  replace HB:=bS (qB1 HB ze) hb
  refine hK.out _ _ (c10 za (zW HB yx)) (fun hHeld=>?_)
  clear hK K
  refine nM 60 ?_
  refine pQ 5 61 9 63 HT_ ?_
  refine pQ 6 62 9 127 HT_ ?_
  refine pQ 7 6 9 255 HT_ ?_
  refine pQ 8 7 9 511 HT_ ?_
  refine dN HT_ ?_
  try go_wp2
  go_ret2
  exact⟨_,pE,pR HO338.out,qB1 HB ze⟩
 rw[iN c22] at H
 have ya7:=bF c22
 have ya8:=nT c22
 by_cases c27:a0=40
 ·rw[ip c27] at H
  have yba:=bT c27
  have ybb:=nF c27
  clear c27
  by_cases c28:0<(l2.length:Int)
  rotate_left
  ·rw[iN c28] at H
   cases H
  rw[ip c28] at H
  have c28b0:=dT c28
  have c28b1:decide (0<l2.length)=true:=decide_eq_true (by omega)
  clear c28
  by_cases c29:1<(l2.length:Int)
  rotate_left
  ·rw[iN c29] at H
   cases H
  rw[ip c29] at H
  have c29b0:=dT c29
  have c29b1:decide (1<l2.length)=true:=decide_eq_true (by omega)
  clear c29
  replace H:=oB H
  obtain⟨⟨t342,t343⟩,zav,H⟩:=H
  try dsimp only at H
  have A30:=aM zav
  clear zav
  replace H:=oi2 H
  obtain⟨rfl,rfl⟩:=H
  try go_wp2
  replace za:=aM (blk_drew za.out)
  replace HB:=aM (below_drew1 HB.out)
  have ybm:0≤(0:Int):=(by omega)
  have ybn:0<(l2.length:Int):=oD
  obtain⟨y9,yak,yal,ybo,yq,yaa,yab⟩:=at_L1 HR2.out 0 ybm ybn
  have yy:=yq
  (try rw[show ((0:Int)).toNat=0 from rfl] at yy)
  (try rw[show 0*1=0 from rfl] at yy)
  (try rw[Addr.add_zero'] at yy)
  cases ybo
  have qi340:(0<l2.length)=True:=eq_true (by omega)
  (try rw[show ((0:Int)).toNat=0 from rfl] at yq)
  (try rw[Addr.add_zero'] at yq)
  replace yq:=zW HB yq
  have zad:=aM yab
  have yar:=aM yaa
  clear yab yaa
  have ybp:0≤(1:Int):=(by omega)
  have ybq:1<(l2.length:Int):=oD
  obtain⟨ybc,yam,yan,ybr,yr,yac,yad⟩:=at_L1 HR2.out 1 ybp ybq
  have yz:=yr
  (try rw[show ((1:Int)).toNat=1 from rfl] at yz)
  (try rw[show 1*1=1 from rfl] at yz)
  (try simp only[Nat.reduceMul,Nat.reduceEqDiff,Go.Addr.add,↓reduceIte] at yz)
  obtain rfl:y9=ybc:=(by injection ybr)
  (try simp only[show (1:Int).toNat=1 from rfl,Nat.reduceMul,Nat.reduceEqDiff,Go.Addr.add,↓reduceIte] at yr)
  have qi341:(1<l2.length)=True:=eq_true (by omega)
  (try rw[show ((1:Int)).toNat=1 from rfl] at yr)
  replace yr:=zW HB yr
  have zae:=aM yad
  have yas:=aM yac
  clear yad yac
  refine sT 13 [] (fun w'=>w'.cell? ⟨zc,0,none⟩=some (.int .i64 yc)∧w'.cell? ⟨zc,1,none⟩=some (.int .i64 yd)∧w'.cell? ⟨zc,2,none⟩=some (.int .i64 ye)∧w'.cell? ⟨zc,3,none⟩=some (.int .i64 yf)∧w'.cell? ⟨zc,4,none⟩=some (.int .i64 yg)∧w'.cell? ⟨zc,5,none⟩=some (.int .i64 yh)∧w'.cell? ⟨zc,6,none⟩=some (.int .i64 yi)∧w'.cell? ⟨zc,7,none⟩=some (.int .i64 yj)∧w'.cell? ⟨zc,8,none⟩=some (.bool yk)∧w'.cell? ⟨zc,9,none⟩=some (.slice ym yb.length yn)∧w'.cell? y9=some (.slice yak (rd_L1 l2 0).length yal)∧w'.cell? ⟨y9.block,y9.off+1,none⟩=some (.slice yam (rd_L1 l2 1).length yan)) fbt.tab18 fbt.bits18 (c10 za ⟨(zW HB yy),(zW HB yz)⟩) (fun hHeld HT_ HW_=>?_)
  generalize wr.drew=w31 at za HB zad zae yq yr hHeld ⊢
  refine pQ 0 65 13 1 HT_ ?_
  refine pQ 1 66 13 3 HT_ ?_
  refine pQ 3 68 13 11 HT_ ?_
  refine pQ 4 69 13 27 HT_ ?_
  refine pQ 6 71 13 91 HT_ ?_
  refine pU12 2 67 13 95 HT_ HW_ hHeld ?_
  refine pU12 5 70 13 127 HT_ HW_ hHeld ?_
  refine pU12 7 72 13 255 HT_ HW_ hHeld ?_
  refine oN 8 73 13 511 HT_ (fun K hK=>?_)
  refine gS Try.func34 #[.slice yak (rd_L1 l2 0).length yal,.slice yam (rd_L1 l2 1).length yan,.int .i64 yc] ?_
  with_reducible refine(fbw.calls k2 _ _ (rd_L1 l2 0) _ _ (rd_L1 l2 1) yc t342 t343 _ ?s1 yar.out ?s3 yas.out A30.out).mono ?_
  (case s1=>exact sC zad HB)
  (case s3=>exact sC zae HB)
  rintro e w32 ⟨v344,rfl,ho0,hb⟩
  refine⟨_,rfl,?_⟩
  have HO345:=aM (Kd.R_lower ho0 (below_size (qB1 HB ze)))
  replace za:=bK za hb
  replace HB:=bS (qB1 HB ze) hb
  refine hK.out _ _ (c10 za ⟨(zW HB yy),(zW HB yz)⟩) (fun hHeld=>?_)
  clear hK K
  refine nM 73 ?_
  refine pQ 9 74 13 1023 HT_ ?_
  refine pQ 10 75 13 2047 HT_ ?_
  refine pQ 11 6 13 4095 HT_ ?_
  refine pQ 12 7 13 8191 HT_ ?_
  refine dN HT_ ?_
  try go_wp2
  go_ret2
  exact⟨_,pE,pR HO345.out,qB1 HB ze⟩
 rw[iN c27] at H
 have yba:=bF c27
 have ybb:=nT c27
 by_cases c33:0<(l2.length:Int)
 rotate_left
 ·rw[iN c33] at H
  cases H
 rw[ip c33] at H
 have c33b0:=dT c33
 have c33b1:decide (0<l2.length)=true:=decide_eq_true (by omega)
 clear c33
 replace H:=oB H
 obtain⟨⟨z4,zx,zy⟩,zaw,H⟩:=H
 try dsimp only at H
 have A34:=aM zaw
 clear zaw
 replace H:=oB H
 obtain⟨⟨zag,zan,zao,zah⟩,zax,H⟩:=H
 try dsimp only at H
 have A35:=aM zax
 clear zax
 replace H:=oi2 H
 obtain⟨rfl,rfl⟩:=H
 try go_wp2
 replace za:=aM (blk_drew za.out)
 replace HB:=aM (below_drew1 HB.out)
 have ybs:0≤(0:Int):=(by omega)
 have ybt:0<(l2.length:Int):=oD
 obtain⟨yao,y0,y1,ybu,ys,yae,yaf⟩:=at_L1 HR2.out 0 ybs ybt
 have ya:=ys
 (try rw[show ((0:Int)).toNat=0 from rfl] at ya)
 (try rw[show 0*1=0 from rfl] at ya)
 (try rw[Addr.add_zero'] at ya)
 cases ybu
 have qi346:(0<l2.length)=True:=eq_true (by omega)
 (try rw[show ((0:Int)).toNat=0 from rfl] at ys)
 (try rw[Addr.add_zero'] at ys)
 replace ys:=zW HB ys
 have z5:=aM yaf
 have zaf:=aM yae
 clear yaf yae
 refine sT 13 [] (fun w'=>w'.cell? ⟨zc,0,none⟩=some (.int .i64 yc)∧w'.cell? ⟨zc,1,none⟩=some (.int .i64 yd)∧w'.cell? ⟨zc,2,none⟩=some (.int .i64 ye)∧w'.cell? ⟨zc,3,none⟩=some (.int .i64 yf)∧w'.cell? ⟨zc,4,none⟩=some (.int .i64 yg)∧w'.cell? ⟨zc,5,none⟩=some (.int .i64 yh)∧w'.cell? ⟨zc,6,none⟩=some (.int .i64 yi)∧w'.cell? ⟨zc,7,none⟩=some (.int .i64 yj)∧w'.cell? ⟨zc,8,none⟩=some (.bool yk)∧w'.cell? ⟨zc,9,none⟩=some (.slice ym yb.length yn)∧w'.cell? yao=some (.slice y0 (rd_L1 l2 0).length y1)) fbt.tab19 fbt.bits19 (c10 za (zW HB ya)) (fun hHeld HT_ HW_=>?_)
 generalize wr.drew=w36 at za HB z5 ys hHeld ⊢
 refine pQ 0 77 13 1 HT_ ?_
 refine pQ 2 79 13 5 HT_ ?_
 refine pQ 3 80 13 13 HT_ ?_
 refine pU11 1 78 13 15 HT_ HW_ hHeld ?_
 refine pU11 4 81 13 31 HT_ HW_ hHeld ?_
 refine join_ (σ:=Value×Value×Value×Value×Nat) 2 (bm 13 2047) (fun s_=>[(82,.agg #[.int .i64 z4,s_.1,s_.2.1]),(83,.tuple #[.agg #[.int .i64 zag,s_.2.2.1,s_.2.2.2.1],.int .i64 zah]),(11,.pointer (some ⟨s_.2.2.2.2,0,none⟩)),(76,.tuple #[.agg #[.int .i64 zag,s_.2.2.1,s_.2.2.2.1],.int .i64 zah]),(84,.agg #[.int .i64 zag,s_.2.2.1,s_.2.2.2.1]),(85,.int .i64 zah)]) (fun s_ w'=>(w'.cell? ⟨zc,0,none⟩=some (.int .i64 yc)∧w'.cell? ⟨zc,1,none⟩=some (.int .i64 yd)∧w'.cell? ⟨zc,2,none⟩=some (.int .i64 ye)∧w'.cell? ⟨zc,3,none⟩=some (.int .i64 yf)∧w'.cell? ⟨zc,4,none⟩=some (.int .i64 yg)∧w'.cell? ⟨zc,5,none⟩=some (.int .i64 yh)∧w'.cell? ⟨zc,6,none⟩=some (.int .i64 yi)∧w'.cell? ⟨zc,7,none⟩=some (.int .i64 yj)∧w'.cell? ⟨zc,8,none⟩=some (.bool yk)∧w'.cell? ⟨zc,9,none⟩=some (.slice ym yb.length yn)∧w'.cell? yao=some (.slice y0 (rd_L1 l2 0).length y1))∧(Kd.R (Kd.int .i64) 3 w' w.heap.size (fun k_=>some k_≠(s_.2.1:Value).ownBlock∧some k_≠(s_.2.2.1:Value).ownBlock∧some k_≠(s_.2.2.2.1:Value).ownBlock) s_.1 zx)∧(Kd.R (Kd.int .i64) 3 w' w.heap.size (fun k_=>some k_≠(s_.1:Value).ownBlock∧some k_≠(s_.2.2.1:Value).ownBlock∧some k_≠(s_.2.2.2.1:Value).ownBlock) s_.2.1 zy)∧(Kd.R (Kd.int .i64) 3 w' w.heap.size (fun k_=>some k_≠(s_.1:Value).ownBlock∧some k_≠(s_.2.1:Value).ownBlock∧some k_≠(s_.2.2.2.1:Value).ownBlock) s_.2.2.1 zan)∧(Kd.R (Kd.int .i64) 3 w' w.heap.size (fun k_=>some k_≠(s_.1:Value).ownBlock∧some k_≠(s_.2.1:Value).ownBlock∧some k_≠(s_.2.2.1:Value).ownBlock) s_.2.2.2.1 zao)∧(w'.heap[zc]?=some (.cells (aT yc yd ye yf yg yh yi yj yk ym yb.length yn) 24 (0,0)))∧(w'.heap[s_.2.2.2.2]?=some (.cells #[.int .i64 0,.slice none 0 0,.slice none 0 0] 44 (0,0)))∧(w.heap.size≤s_.2.2.2.2)∧(w.heap.size≤s_.2.2.2.2)∧(zc≠s_.2.2.2.2)∧(s_.2.2.2.2≠zc)∧(Below w.heap.size w w')) ?_ ?_
 rotate_left
 ·intro hCont
  refine two_ (i:=5) (j:=10) (Ni:=some 82) (Nj:=some 11) (bm 13 63) (bm 13 1055) rfl rfl rfl rfl (two_of HT_.out (by kernel_rfl)) (by decide) (by decide) (fun K hK=>?_) (fun K hK=>?_)
  ·skip
   refine gS Try.func35 #[.slice y0 (rd_L1 l2 0).length y1] ?_
   with_reducible refine(fda.calls k2 _ _ (rd_L1 l2 0) z4 zx zy _ ?s1 zaf.out A34.out).mono ?_
   (case s1=>exact sC z5 HB)
   rintro e w37 ⟨zai,zaj,rfl,ho0,ho1,hb⟩
   refine⟨_,rfl,?_⟩
   have zf:=aM (Kd.R_lower ho0 (below_size (qB1 HB ze)))
   have zg:=aM (Kd.R_lower ho1 (below_size (qB1 HB ze)))
   replace za:=bK za hb
   replace HB:=bS (qB1 HB ze) hb
   obtain⟨zay,zaz,za0⟩:=Kd.R_slice zf.out
   (first|subst za0|(injection za0 with f1_ f2_ f3_;have f4_:=f1_.symm;have f5_:=f3_.symm;clear f1_ f2_ f3_;subst f4_;subst f5_))
   obtain⟨z8,z9,zaa⟩:=Kd.R_slice zg.out
   (first|subst zaa|(injection zaa with f1_ f2_ f3_;have f4_:=f1_.symm;have f5_:=f3_.symm;clear f1_ f2_ f3_;subst f4_;subst f5_))
   refine hK.out _ _ (c10 za (zW HB ya)) (fun hHeld=>?_)
   clear hK K
   refine nM 82 ?_
   refine two_ (i:=6) (j:=10) (Ni:=some 83) (Nj:=some 11) (bm 13 127) (bm 13 1087) rfl rfl rfl rfl (two_of HT_.out (by kernel_rfl)) (by decide) (by decide) (fun K hK=>?_) (fun K hK=>?_)
   ·skip
    refine gS Try.func18 #[.int .i64 a0,.agg (aT yc yd ye yf yg yh yi yj yk ym yb.length yn),.agg #[.int .i64 z4,.slice zay zx.length zaz,.slice z8 zy.length z9]] ?_
    with_reducible refine(fbv.calls k2 a0 yc yd ye yf yg yh yi yj yk _ _ yb z4 _ _ zx _ _ zy zag zan zao zah _ ?s1 z7.out ?s3 ?s4 ?s5 ?s6 A35.out).mono ?_
    (case s1=>exact sC z6 HB)
    (case s3=>exact sR zf)
    (case s4=>exact sL zf)
    (case s5=>exact sR zg)
    (case s6=>exact sL zg)
    rintro e w40 ⟨z0,z1,rfl,ho0,ho1,hb⟩
    refine⟨_,rfl,?_⟩
    have zv:=aM (Kd.R_lower (Kd.R_new' (Kd.R_new' ho0 (Kd.R_lt (pR zf.out))) (Kd.R_lt (pR zg.out))) (below_size (qB1 HB ze)))
    have zw:=aM (Kd.R_lower (Kd.R_new' (Kd.R_new' ho1 (Kd.R_lt (pR zf.out))) (Kd.R_lt (pR zg.out))) (below_size (qB1 HB ze)))
    replace zf:=eR2 zf ho0 ho1 hb
    replace zg:=eR2 zg ho0 ho1 hb
    replace za:=bK za hb
    replace HB:=bS (qB1 HB ze) hb
    refine hK.out _ _ (c10 za (zW HB ya)) (fun hHeld=>?_)
    clear hK K
    refine nM 83 ?_
    refine pQ 7 76 13 255 HT_ ?_
    refine pQ 8 84 13 511 HT_ ?_
    refine pQ 9 85 13 1023 HT_ ?_
    refine oN 10 11 13 2047 HT_ (fun K hK=>?_)
    refine box_step ?hg (N:=11) ?hd (cs:=#[.int .i64 0,.slice none 0 0,.slice none 0 0]) (t:=44) ?hr ?_;(case hd=>rfl);(case hg=>rfl);(case hr=>first|(go_simp;done)|(go_simp;rfl))
    intro zd hg w41 hbox hb
    replace zf:=bR zf hb
    replace zg:=bR zg hb
    replace zv:=bR zv hb
    replace zw:=bR zw hb
    have zj:=aM (hbox)
    have zi:=gE (w:=w) hg (qB1 HB ze)
    have zk:=zi
    replace HB:=bS (qB1 HB ze) hb
    have zb:=nL hg za
    have zh:=nG hg za
    replace za:=bK za hb
    clear hb hbox hg
    refine hK.out _ _ (c10 za (zW HB ya)) (fun hHeld=>?_)
    clear hK K
    refine nM 11 ?_
    exact norm_ (by simp only[putAll,Act.put,sP]) (hCont (.slice zay zx.length zaz,.slice z8 zy.length z9,z0,z1,zd) _ ⟨hHeld,(by(with_reducible repeat(first|apply rA|apply rN|apply rD));exact Kd.R_mono zf.out (fun _ hk=>⟨hk.1.1,⟨hk.1.2,hk.2⟩⟩)),(by(with_reducible repeat(first|apply rA|apply rN|apply rD));exact Kd.R_mono zg.out (fun _ hk=>⟨hk.1.1,⟨hk.1.2,hk.2⟩⟩)),(by(with_reducible repeat(first|apply rA|apply rN|apply rD));exact Kd.R_mono zv.out (fun _ hk=>⟨hk.1.2,⟨hk.2,hk.1.1⟩⟩)),(by(with_reducible repeat(first|apply rA|apply rN|apply rD));exact Kd.R_mono zw.out (fun _ hk=>⟨hk.1.2,⟨hk.2,hk.1.1⟩⟩)),(pK za.out),(pK zj.out),zi.out,zk.out,zb.out,zh.out,(qB2 HB ze zk)⟩)
   ·skip
    refine box_step ?hg (N:=11) ?hd (cs:=#[.int .i64 0,.slice none 0 0,.slice none 0 0]) (t:=44) ?hr ?_;(case hd=>rfl);(case hg=>rfl);(case hr=>first|(go_simp;done)|(go_simp;rfl))
    intro zd hg w38 hbox hb
    replace zf:=bR zf hb
    replace zg:=bR zg hb
    have zj:=aM (hbox)
    have zi:=gE (w:=w) hg (qB1 HB ze)
    have zk:=zi
    replace HB:=bS (qB1 HB ze) hb
    have zb:=nL hg za
    have zh:=nG hg za
    replace za:=bK za hb
    clear hb hbox hg
    obtain⟨z8,z9,zaa⟩:=Kd.R_slice zf.out
    (first|subst zaa|(injection zaa with f1_ f2_ f3_;have f4_:=f1_.symm;have f5_:=f3_.symm;clear f1_ f2_ f3_;subst f4_;subst f5_))
    obtain⟨zap,zaq,zar⟩:=Kd.R_slice zg.out
    (first|subst zar|(injection zar with f1_ f2_ f3_;have f4_:=f1_.symm;have f5_:=f3_.symm;clear f1_ f2_ f3_;subst f4_;subst f5_))
    refine hK.out _ _ (c10 za (zW HB ya)) (fun hHeld=>?_)
    clear hK K
    refine nM 11 ?_
    refine oN 6 83 13 1151 HT_ (fun K hK=>?_)
    refine gS Try.func18 #[.int .i64 a0,.agg (aT yc yd ye yf yg yh yi yj yk ym yb.length yn),.agg #[.int .i64 z4,.slice z8 zx.length z9,.slice zap zy.length zaq]] ?_
    with_reducible refine(fbv.calls k2 a0 yc yd ye yf yg yh yi yj yk _ _ yb z4 _ _ zx _ _ zy zag zan zao zah _ ?s1 z7.out ?s3 ?s4 ?s5 ?s6 A35.out).mono ?_
    (case s1=>exact sC z6 HB)
    (case s3=>exact sR zf)
    (case s4=>exact sL zf)
    (case s5=>exact sR zg)
    (case s6=>exact sL zg)
    rintro e w41 ⟨z0,z1,rfl,ho0,ho1,hb⟩
    refine⟨_,rfl,?_⟩
    have zv:=aM (Kd.R_lower (Kd.R_new' (Kd.R_new' ho0 (Kd.R_lt (pR zf.out))) (Kd.R_lt (pR zg.out))) (below_size (qB2 HB ze zk)))
    have zw:=aM (Kd.R_lower (Kd.R_new' (Kd.R_new' ho1 (Kd.R_lt (pR zf.out))) (Kd.R_lt (pR zg.out))) (below_size (qB2 HB ze zk)))
    replace zf:=eR2 zf ho0 ho1 hb
    replace zg:=eR2 zg ho0 ho1 hb
    replace za:=bK za hb
    replace zj:=bK zj hb
    replace HB:=bS (qB2 HB ze zk) hb
    refine hK.out _ _ (c10 za (zW HB ya)) (fun hHeld=>?_)
    clear hK K
    refine nM 83 ?_
    refine pQ 7 76 13 1279 HT_ ?_
    refine pQ 8 84 13 1535 HT_ ?_
    refine pQ 9 85 13 2047 HT_ ?_
    exact norm_ (by simp only[putAll,Act.put,sP]) (hCont (.slice z8 zx.length z9,.slice zap zy.length zaq,z0,z1,zd) _ ⟨hHeld,(by(with_reducible repeat(first|apply rA|apply rN|apply rD));exact Kd.R_mono zf.out (fun _ hk=>⟨hk.1.1,⟨hk.1.2,hk.2⟩⟩)),(by(with_reducible repeat(first|apply rA|apply rN|apply rD));exact Kd.R_mono zg.out (fun _ hk=>⟨hk.1.1,⟨hk.1.2,hk.2⟩⟩)),(by(with_reducible repeat(first|apply rA|apply rN|apply rD));exact Kd.R_mono zv.out (fun _ hk=>⟨hk.1.2,⟨hk.2,hk.1.1⟩⟩)),(by(with_reducible repeat(first|apply rA|apply rN|apply rD));exact Kd.R_mono zw.out (fun _ hk=>⟨hk.1.2,⟨hk.2,hk.1.1⟩⟩)),(pK za.out),(pK zj.out),zi.out,zk.out,zb.out,zh.out,(qB2 HB ze zk)⟩)
  ·skip
   refine box_step ?hg (N:=11) ?hd (cs:=#[.int .i64 0,.slice none 0 0,.slice none 0 0]) (t:=44) ?hr ?_;(case hd=>rfl);(case hg=>rfl);(case hr=>first|(go_simp;done)|(go_simp;rfl))
   intro zd hg w37 hbox hb
   have zj:=aM (hbox)
   have zi:=gE (w:=w) hg (qB1 HB ze)
   have zk:=zi
   replace HB:=bS (qB1 HB ze) hb
   have zb:=nL hg za
   have zh:=nG hg za
   replace za:=bK za hb
   clear hb hbox hg
   refine hK.out _ _ (c10 za (zW HB ya)) (fun hHeld=>?_)
   clear hK K
   refine nM 11 ?_
   refine oN 5 82 13 1087 HT_ (fun K hK=>?_)
   refine gS Try.func35 #[.slice y0 (rd_L1 l2 0).length y1] ?_
   with_reducible refine(fda.calls k2 _ _ (rd_L1 l2 0) z4 zx zy _ ?s1 zaf.out A34.out).mono ?_
   (case s1=>exact sC z5 HB)
   rintro e w38 ⟨zai,zaj,rfl,ho0,ho1,hb⟩
   refine⟨_,rfl,?_⟩
   have zf:=aM (Kd.R_lower ho0 (below_size (qB2 HB ze zk)))
   have zg:=aM (Kd.R_lower ho1 (below_size (qB2 HB ze zk)))
   replace za:=bK za hb
   replace zj:=bK zj hb
   replace HB:=bS (qB2 HB ze zk) hb
   obtain⟨z8,z9,zaa⟩:=Kd.R_slice zf.out
   (first|subst zaa|(injection zaa with f1_ f2_ f3_;have f4_:=f1_.symm;have f5_:=f3_.symm;clear f1_ f2_ f3_;subst f4_;subst f5_))
   obtain⟨zap,zaq,zar⟩:=Kd.R_slice zg.out
   (first|subst zar|(injection zar with f1_ f2_ f3_;have f4_:=f1_.symm;have f5_:=f3_.symm;clear f1_ f2_ f3_;subst f4_;subst f5_))
   refine hK.out _ _ (c10 za (zW HB ya)) (fun hHeld=>?_)
   clear hK K
   refine nM 82 ?_
   refine oN 6 83 13 1151 HT_ (fun K hK=>?_)
   refine gS Try.func18 #[.int .i64 a0,.agg (aT yc yd ye yf yg yh yi yj yk ym yb.length yn),.agg #[.int .i64 z4,.slice z8 zx.length z9,.slice zap zy.length zaq]] ?_
   with_reducible refine(fbv.calls k2 a0 yc yd ye yf yg yh yi yj yk _ _ yb z4 _ _ zx _ _ zy zag zan zao zah _ ?s1 z7.out ?s3 ?s4 ?s5 ?s6 A35.out).mono ?_
   (case s1=>exact sC z6 HB)
   (case s3=>exact sR zf)
   (case s4=>exact sL zf)
   (case s5=>exact sR zg)
   (case s6=>exact sL zg)
   rintro e w41 ⟨z0,z1,rfl,ho0,ho1,hb⟩
   refine⟨_,rfl,?_⟩
   have zv:=aM (Kd.R_lower (Kd.R_new' (Kd.R_new' ho0 (Kd.R_lt (pR zf.out))) (Kd.R_lt (pR zg.out))) (below_size (qB2 HB ze zk)))
   have zw:=aM (Kd.R_lower (Kd.R_new' (Kd.R_new' ho1 (Kd.R_lt (pR zf.out))) (Kd.R_lt (pR zg.out))) (below_size (qB2 HB ze zk)))
   replace zf:=eR2 zf ho0 ho1 hb
   replace zg:=eR2 zg ho0 ho1 hb
   replace za:=bK za hb
   replace zj:=bK zj hb
   replace HB:=bS (qB2 HB ze zk) hb
   refine hK.out _ _ (c10 za (zW HB ya)) (fun hHeld=>?_)
   clear hK K
   refine nM 83 ?_
   refine pQ 7 76 13 1279 HT_ ?_
   refine pQ 8 84 13 1535 HT_ ?_
   refine pQ 9 85 13 2047 HT_ ?_
   exact norm_ (by simp only[putAll,Act.put,sP]) (hCont (.slice z8 zx.length z9,.slice zap zy.length zaq,z0,z1,zd) _ ⟨hHeld,(by(with_reducible repeat(first|apply rA|apply rN|apply rD));exact Kd.R_mono zf.out (fun _ hk=>⟨hk.1.1,⟨hk.1.2,hk.2⟩⟩)),(by(with_reducible repeat(first|apply rA|apply rN|apply rD));exact Kd.R_mono zg.out (fun _ hk=>⟨hk.1.1,⟨hk.1.2,hk.2⟩⟩)),(by(with_reducible repeat(first|apply rA|apply rN|apply rD));exact Kd.R_mono zv.out (fun _ hk=>⟨hk.1.2,⟨hk.2,hk.1.1⟩⟩)),(by(with_reducible repeat(first|apply rA|apply rN|apply rD));exact Kd.R_mono zw.out (fun _ hk=>⟨hk.1.2,⟨hk.2,hk.1.1⟩⟩)),(pK za.out),(pK zj.out),zi.out,zk.out,zb.out,zh.out,(qB2 HB ze zk)⟩)
 rintro⟨zai,zaj,z0,z1,zd⟩ w42 ⟨hS_,h0_,h1_,h2_,h3_,h4_,h5_,h6_,h7_,h8_,h9_,h10_⟩
 have n0_:Aside0 (Kd.R (Kd.int .i64) 3 w42 w.heap.size (fun k_=>some k_≠(zaj:Value).ownBlock∧some k_≠(z0:Value).ownBlock∧some k_≠(z1:Value).ownBlock) zai zx):=⟨h0_⟩
 have n1_:Aside0 (Kd.R (Kd.int .i64) 3 w42 w.heap.size (fun k_=>some k_≠(zai:Value).ownBlock∧some k_≠(z0:Value).ownBlock∧some k_≠(z1:Value).ownBlock) zaj zy):=⟨h1_⟩
 have n2_:Aside0 (Kd.R (Kd.int .i64) 3 w42 w.heap.size (fun k_=>some k_≠(zai:Value).ownBlock∧some k_≠(zaj:Value).ownBlock∧some k_≠(z1:Value).ownBlock) z0 zan):=⟨h2_⟩
 have n3_:Aside0 (Kd.R (Kd.int .i64) 3 w42 w.heap.size (fun k_=>some k_≠(zai:Value).ownBlock∧some k_≠(zaj:Value).ownBlock∧some k_≠(z0:Value).ownBlock) z1 zao):=⟨h3_⟩
 have n4_:Aside0 (w42.heap[zc]?=some (.cells (aT yc yd ye yf yg yh yi yj yk ym yb.length yn) 24 (0,0))):=⟨h4_⟩
 have n5_:Aside0 (w42.heap[zd]?=some (.cells #[.int .i64 0,.slice none 0 0,.slice none 0 0] 44 (0,0))):=⟨h5_⟩
 have n6_:Aside0 (w.heap.size≤zd):=⟨h6_⟩
 have n7_:Aside0 (w.heap.size≤zd):=⟨h7_⟩
 have n8_:Aside0 (zc≠zd):=⟨h8_⟩
 have n9_:Aside0 (zd≠zc):=⟨h9_⟩
 have n10_:Aside0 (Below w.heap.size w w42):=⟨h10_⟩
 clear za
 clear HB
 clear h0_ h1_ h2_ h3_ h4_ h5_ h6_ h7_ h8_ h9_ h10_
 have zf:=n0_
 have zg:=n1_
 have zv:=n2_
 have zw:=n3_
 have za:=n4_
 have zj:=n5_
 have zi:=n6_
 have zk:=n7_
 have zb:=n8_
 have zh:=n9_
 have HB:=n10_
 clear n0_ n1_ n2_ n3_ n4_ n5_ n6_ n7_ n8_ n9_ n10_
 have hHeld:w42.cell? ⟨zc,0,none⟩=some (.int .i64 yc)∧w42.cell? ⟨zc,1,none⟩=some (.int .i64 yd)∧w42.cell? ⟨zc,2,none⟩=some (.int .i64 ye)∧w42.cell? ⟨zc,3,none⟩=some (.int .i64 yf)∧w42.cell? ⟨zc,4,none⟩=some (.int .i64 yg)∧w42.cell? ⟨zc,5,none⟩=some (.int .i64 yh)∧w42.cell? ⟨zc,6,none⟩=some (.int .i64 yi)∧w42.cell? ⟨zc,7,none⟩=some (.int .i64 yj)∧w42.cell? ⟨zc,8,none⟩=some (.bool yk)∧w42.cell? ⟨zc,9,none⟩=some (.slice ym yb.length yn)∧w42.cell? yao=some (.slice y0 (rd_L1 l2 0).length y1):=hS_
 obtain⟨Ao44,co44,za1⟩:=Kd.R_slice zv.out
 (first|subst za1|(injection za1 with f1_ f2_ f3_;have f4_:=f1_.symm;have f5_:=f3_.symm;clear f1_ f2_ f3_;subst f4_;subst f5_))
 obtain⟨Ao46,co46,za2⟩:=Kd.R_slice zw.out
 (first|subst za2|(injection za2 with f1_ f2_ f3_;have f4_:=f1_.symm;have f5_:=f3_.symm;clear f1_ f2_ f3_;subst f4_;subst f5_))
 refine norm_ (a':=?_) ?_ ?_
 rotate_left
 ·simp only[putAll,Act.put,sP]
  rfl
 refine one_ (i:=11) (N:=none) (bm 13 4095) rfl rfl (one_of HT_.out (by kernel_rfl)) (by decide) (fun K hK=>?_)
 have hs43:w42.cell? ⟨zd,0,none⟩=some (.int .i64 0):=(blk_cell zj.out 0).trans rfl
 have hfs43:=blk_frozen zj.out 0
 have hns43_0:=zb.out
 have hms43_0:=zh.out
 have hs45:w42.cell? ⟨zd,1,none⟩=some (.slice none 0 0):=(blk_cell zj.out 1).trans rfl
 have hfs45:=blk_frozen zj.out 1
 have hns45_0:=zb.out
 have hms45_0:=zh.out
 have hs47:w42.cell? ⟨zd,2,none⟩=some (.slice none 0 0):=(blk_cell zj.out 2).trans rfl
 have hfs47:=blk_frozen zj.out 2
 have hns47_0:=zb.out
 have hms47_0:=zh.out
 refine skip_ (w1:=?_) (by rfl) rfl ?_ ?_
 rotate_left
 ·go_simp
  rfl
 refine hK.out _ _ ⟨((cell_far (p:=⟨zd,_,none⟩) zb.out _).trans (((cell_far (p:=⟨zd,_,none⟩) zb.out _).trans (((cell_far (p:=⟨zd,_,none⟩) zb.out _).trans (hHeld.1)))))),((cell_far (p:=⟨zd,_,none⟩) zb.out _).trans (((cell_far (p:=⟨zd,_,none⟩) zb.out _).trans (((cell_far (p:=⟨zd,_,none⟩) zb.out _).trans (hHeld.2.1)))))),((cell_far (p:=⟨zd,_,none⟩) zb.out _).trans (((cell_far (p:=⟨zd,_,none⟩) zb.out _).trans (((cell_far (p:=⟨zd,_,none⟩) zb.out _).trans (hHeld.2.2.1)))))),((cell_far (p:=⟨zd,_,none⟩) zb.out _).trans (((cell_far (p:=⟨zd,_,none⟩) zb.out _).trans (((cell_far (p:=⟨zd,_,none⟩) zb.out _).trans (hHeld.2.2.2.1)))))),((cell_far (p:=⟨zd,_,none⟩) zb.out _).trans (((cell_far (p:=⟨zd,_,none⟩) zb.out _).trans (((cell_far (p:=⟨zd,_,none⟩) zb.out _).trans (hHeld.2.2.2.2.1)))))),((cell_far (p:=⟨zd,_,none⟩) zb.out _).trans (((cell_far (p:=⟨zd,_,none⟩) zb.out _).trans (((cell_far (p:=⟨zd,_,none⟩) zb.out _).trans (hHeld.2.2.2.2.2.1)))))),((cell_far (p:=⟨zd,_,none⟩) zb.out _).trans (((cell_far (p:=⟨zd,_,none⟩) zb.out _).trans (((cell_far (p:=⟨zd,_,none⟩) zb.out _).trans (hHeld.2.2.2.2.2.2.1)))))),((cell_far (p:=⟨zd,_,none⟩) zb.out _).trans (((cell_far (p:=⟨zd,_,none⟩) zb.out _).trans (((cell_far (p:=⟨zd,_,none⟩) zb.out _).trans (hHeld.2.2.2.2.2.2.2.1)))))),((cell_far (p:=⟨zd,_,none⟩) zb.out _).trans (((cell_far (p:=⟨zd,_,none⟩) zb.out _).trans (((cell_far (p:=⟨zd,_,none⟩) zb.out _).trans (hHeld.2.2.2.2.2.2.2.2.1)))))),((cell_far (p:=⟨zd,_,none⟩) zb.out _).trans (((cell_far (p:=⟨zd,_,none⟩) zb.out _).trans (((cell_far (p:=⟨zd,_,none⟩) zb.out _).trans (hHeld.2.2.2.2.2.2.2.2.2.1)))))),((cell_far (p:=⟨zd,_,none⟩) (by first|exact Nat.ne_of_lt (Nat.lt_of_lt_of_le (by have:=World.block_lt_of_cell? _ _ ya;first|rwa [add_block] at this|exact this) zi.out)|(rw[add_block];exact Nat.ne_of_lt (Nat.lt_of_lt_of_le (by have:=World.block_lt_of_cell? _ _ ya;first|rwa [add_block] at this|exact this) zi.out))|(show (Addr.add _ _).block≠_;rw[add_block];exact Nat.ne_of_lt (Nat.lt_of_lt_of_le (by have:=World.block_lt_of_cell? _ _ ya;first|rwa [add_block] at this|exact this) zi.out))|(dsimp only;exact Nat.ne_of_lt (Nat.lt_of_lt_of_le (by have:=World.block_lt_of_cell? _ _ ya;first|rwa [add_block] at this|exact this) zi.out))) _).trans (((cell_far (p:=⟨zd,_,none⟩) (by first|exact Nat.ne_of_lt (Nat.lt_of_lt_of_le (by have:=World.block_lt_of_cell? _ _ ya;first|rwa [add_block] at this|exact this) zi.out)|(rw[add_block];exact Nat.ne_of_lt (Nat.lt_of_lt_of_le (by have:=World.block_lt_of_cell? _ _ ya;first|rwa [add_block] at this|exact this) zi.out))|(show (Addr.add _ _).block≠_;rw[add_block];exact Nat.ne_of_lt (Nat.lt_of_lt_of_le (by have:=World.block_lt_of_cell? _ _ ya;first|rwa [add_block] at this|exact this) zi.out))|(dsimp only;exact Nat.ne_of_lt (Nat.lt_of_lt_of_le (by have:=World.block_lt_of_cell? _ _ ya;first|rwa [add_block] at this|exact this) zi.out))) _).trans (((cell_far (p:=⟨zd,_,none⟩) (by first|exact Nat.ne_of_lt (Nat.lt_of_lt_of_le (by have:=World.block_lt_of_cell? _ _ ya;first|rwa [add_block] at this|exact this) zi.out)|(rw[add_block];exact Nat.ne_of_lt (Nat.lt_of_lt_of_le (by have:=World.block_lt_of_cell? _ _ ya;first|rwa [add_block] at this|exact this) zi.out))|(show (Addr.add _ _).block≠_;rw[add_block];exact Nat.ne_of_lt (Nat.lt_of_lt_of_le (by have:=World.block_lt_of_cell? _ _ ya;first|rwa [add_block] at this|exact this) zi.out))|(dsimp only;exact Nat.ne_of_lt (Nat.lt_of_lt_of_le (by have:=World.block_lt_of_cell? _ _ ya;first|rwa [add_block] at this|exact this) zi.out))) _).trans (hHeld.2.2.2.2.2.2.2.2.2.2))))))⟩ (fun hHeld=>?_)
 clear hK K
 refine pQ 12 12 13 8191 HT_ ?_
 refine dN HT_ ?_
 have hnb48:=zh.out
 have hnc48:=zb.out
 have hcz49:=blk3 zj.out
 try go_wp2
 go_ret2
 exact⟨_,pE,by(with_reducible repeat(first|apply rA|apply rN|apply rD));exact F3 zv zj (fun _ hk=>trivial),qB2 HB ze zk⟩
mutual
def fbz.j0:Nat→Int→Bool→Option (Int)
 | 0,_,_=>none
 | k+1,x0,x7=>if x7=true then(fbz.j1 k x0 x7)else(if x0=32 then(fbz.j1 k x0 (x0==32))else(fbz.j1 k x0 (x0==40)))
def fbz.j1:Nat→Int→Bool→Option (Int)
 | 0,_,_=>none
 | k+1,x0,x7=>if x7=true then(some 2)else(if x0 ≥ 24 then(if x0≤26 then(some 3)else(some 1))else(some 1))
end
def fbz.f (k:Nat) (a0:Int):Option (Int):=(fcb.f a0).bind fun za=>(if za=true then(if a0 ≥ 17 then(fbz.j0 k a0 (decide (a0≤23)))else(fbz.j0 k a0 false))else(some 0))
theorem fbz.calls (k:Nat) (a0 r:Int)(w:World)(h:fbz.f k a0=some r) :
  Calls Try.prog 51 #[.int .i64 a0] w fun e w'=>e=.returned (.int .i64 r)∧Drawn0 w w':=by
 have H:((fcb.f a0).bind fun za=>(if za=true then(if a0 ≥ 17 then(fbz.j0 k a0 (decide (a0≤23)))else(fbz.j0 k a0 false))else(some 0)))=some r:=h
 clear h
 replace H:=oB H
 obtain⟨za,A20,H⟩:=H
 try dsimp only at H
 have A2:=aM A20
 clear A20
 by_cases c3:za=true
 rotate_left
 ·replace c3:=Bool.eq_false_iff.mpr c3
  subst c3
  rw[iN fT] at H
  obtain rfl:=Option.some.inj H
  go_enter Try.func51,Try.ntmps51
  go_wp2_with (first|((with_reducible refine gC 50 rfl ?_);refine gL 5 Try.func50 #[.int .i64 a0] ?_;(with_reducible refine(fcb.calls a0 false _ A2.out).mono ?_);rintro e w' ⟨rfl,⟨nd,rfl⟩⟩;refine⟨_,rfl,?_⟩))
  go_ret
  exact⟨pF,pW⟩
 subst c3
 rw[ip rfl] at H
 have HC4:=aM H
 clear H
 go_enter Try.func51,Try.ntmps51
 go_upto_region 3 with(first|((with_reducible refine gC 50 rfl ?_);refine gL 5 Try.func50 #[.int .i64 a0] ?_;(with_reducible refine(fcb.calls a0 true _ A2.out).mono ?_);rintro e w' ⟨rfl,⟨nd,rfl⟩⟩;refine⟨_,rfl,?_⟩))
 (try simp only[Act.put,sP])
 go_cut [7] (fun v7 wc=>∃ (kq:Nat) (ya:Bool),v7=.bool ya∧Aside0 (fbz.j0 kq a0 ya=some r)∧Aside0 (kq≤k)∧Drawn0 w wc)
 case first =>
  have H:=HC4.out
  clear HC4
  by_cases c5:a0 ≥ 17
  ·rw[ip c5] at H
   have zb:decide (17≤a0)=true:=decide_eq_true c5
   clear c5
   (first|rw[zb]|(simp only[i64_w,i32_w];rw[zb])|skip)
   have H':=aM H
   clear H
   go_wp2
   go_meet
   case rel=>exact⟨_,(decide (a0≤23)),(pF),H',⟨pO⟩,pW⟩
  rw[iN c5] at H
  have zb:decide (17≤a0)=false:=decide_eq_false c5
  clear c5
  (first|rw[zb]|(simp only[i64_w,i32_w];rw[zb])|skip)
  have H':=aM H
  clear H
  go_wp2
  go_meet
  case rel=>exact⟨_,(false),(pF),H',⟨pO⟩,pW⟩
 clear HC4
 try clear c3
 obtain⟨kq,ya,rfl,HA,HJ3,⟨mc3,rfl⟩⟩:=hcut
 cases kq with
 | zero=>exact absurd HA.out (by simp[fbz.j0])
 | succ kj3=>?_
 have H:=HA.out
 clear HA
 simp only[fbz.j0] at H
 have HC6:=aM H
 clear H
 go_upto_if 7 with(fail)
 go_cut [7] (fun v7 wc=>∃ (kq:Nat) (yb:Bool),v7=.bool yb∧Aside0 (fbz.j1 kq a0 yb=some r)∧Aside0 (kq≤kj3)∧Drawn0 w wc)
 case first =>
  have H:=HC6.out
  clear HC6
  by_cases c7:ya=true
  ·subst c7
   rw[ip rfl] at H
   have H':=aM H
   clear H
   go_wp2
   go_meet
   case rel=>exact⟨_,(true),(pF),H',⟨pO1 HJ3⟩,pW⟩
  replace c7:=Bool.eq_false_iff.mpr c7
  subst c7
  rw[iN fT] at H
  by_cases c8:a0=32
  rotate_left
  ·rw[iN c8] at H
   have zc:=bF c8
   have ye:=nT c8
   (first|rw[zc]|(simp only[i64_w,i32_w];rw[zc])|skip)
   have H':=aM H
   clear H
   go_wp2
   go_meet
   case rel=>exact⟨_,((a0==40)),(pF),H',⟨pO1 HJ3⟩,pW⟩
  rw[ip c8] at H
  have zc:=bT c8
  have ye:=nF c8
  clear c8
  (first|rw[zc]|(simp only[i64_w,i32_w];rw[zc])|skip)
  have H':=aM H
  clear H
  go_wp2
  go_meet
  case rel=>exact⟨_,((a0==32)),(pF),H',⟨pO1 HJ3⟩,pW⟩
 clear HC6
 obtain⟨kq,yb,rfl,HA,HJ5,⟨mc5,rfl⟩⟩:=hcut
 cases kq with
 | zero=>exact absurd HA.out (by simp[fbz.j1])
 | succ kj5=>?_
 have H:=HA.out
 clear HA
 simp only[fbz.j1] at H
 by_cases c9:yb=true
 ·subst c9
  rw[ip rfl] at H
  obtain rfl:=Option.some.inj H
  go_wp2
  go_ret
  exact⟨pF,pW⟩
 replace c9:=Bool.eq_false_iff.mpr c9
 subst c9
 rw[iN fT] at H
 by_cases c10:a0 ≥ 24
 rotate_left
 ·rw[iN c10] at H
  have yc:decide (24≤a0)=false:=decide_eq_false c10
  clear c10
  obtain rfl:=Option.some.inj H
  go_wp2
  go_ret
  exact⟨pF,pW⟩
 rw[ip c10] at H
 have yc:decide (24≤a0)=true:=decide_eq_true c10
 clear c10
 by_cases c11:a0≤26
 ·rw[ip c11] at H
  have yd:=dT c11
  clear c11
  obtain rfl:=Option.some.inj H
  go_wp2
  go_ret
  exact⟨pF,pW⟩
 rw[iN c11] at H
 have yd:=dF c11
 clear c11
 obtain rfl:=Option.some.inj H
 go_wp2
 go_ret
 exact⟨pF,pW⟩
def fca.f (a0:Int):Option (Int):=(fcb.f a0).bind fun za=>(if za=true then(if a0<27 then(some 1)else(if a0<32 then(some 2)else(if a0=32 then(some 3)else(if a0≤37 then(some 4)else(some 5)))))else(some 0))
theorem fca.calls (a0 r:Int)(w:World)(h:fca.f a0=some r) :
  Calls Try.prog 52 #[.int .i64 a0] w fun e w'=>e=.returned (.int .i64 r)∧Drawn0 w w':=by
 have H:((fcb.f a0).bind fun za=>(if za=true then(if a0<27 then(some 1)else(if a0<32 then(some 2)else(if a0=32 then(some 3)else(if a0≤37 then(some 4)else(some 5)))))else(some 0)))=some r:=h
 clear h
 replace H:=oB H
 obtain⟨za,A20,H⟩:=H
 try dsimp only at H
 have A2:=aM A20
 clear A20
 by_cases c3:za=true
 rotate_left
 ·replace c3:=Bool.eq_false_iff.mpr c3
  subst c3
  rw[iN fT] at H
  obtain rfl:=Option.some.inj H
  go_enter Try.func52,Try.ntmps52
  go_wp2_with (first|((with_reducible refine gC 50 rfl ?_);refine gL 5 Try.func50 #[.int .i64 a0] ?_;(with_reducible refine(fcb.calls a0 false _ A2.out).mono ?_);rintro e w' ⟨rfl,⟨nd,rfl⟩⟩;refine⟨_,rfl,?_⟩))
  go_ret
  exact⟨pF,pW⟩
 subst c3
 rw[ip rfl] at H
 by_cases c4:a0<27
 ·rw[ip c4] at H
  have ya:=dT c4
  clear c4
  obtain rfl:=Option.some.inj H
  go_enter Try.func52,Try.ntmps52
  go_wp2_with (first|((with_reducible refine gC 50 rfl ?_);refine gL 5 Try.func50 #[.int .i64 a0] ?_;(with_reducible refine(fcb.calls a0 true _ A2.out).mono ?_);rintro e w' ⟨rfl,⟨nd,rfl⟩⟩;refine⟨_,rfl,?_⟩))
  go_ret
  exact⟨pF,pW⟩
 rw[iN c4] at H
 have ya:=dF c4
 clear c4
 by_cases c5:a0<32
 ·rw[ip c5] at H
  have yb:=dT c5
  clear c5
  obtain rfl:=Option.some.inj H
  go_enter Try.func52,Try.ntmps52
  go_wp2_with (first|((with_reducible refine gC 50 rfl ?_);refine gL 5 Try.func50 #[.int .i64 a0] ?_;(with_reducible refine(fcb.calls a0 true _ A2.out).mono ?_);rintro e w' ⟨rfl,⟨nd,rfl⟩⟩;refine⟨_,rfl,?_⟩))
  go_ret
  exact⟨pF,pW⟩
 rw[iN c5] at H
 have yb:=dF c5
 clear c5
 by_cases c6:a0=32
 ·rw[ip c6] at H
  have yc:=bT c6
  have yd:=nF c6
  clear c6
  obtain rfl:=Option.some.inj H
  go_enter Try.func52,Try.ntmps52
  go_wp2_with (first|((with_reducible refine gC 50 rfl ?_);refine gL 5 Try.func50 #[.int .i64 a0] ?_;(with_reducible refine(fcb.calls a0 true _ A2.out).mono ?_);rintro e w' ⟨rfl,⟨nd,rfl⟩⟩;refine⟨_,rfl,?_⟩))
  go_ret
  exact⟨pF,pW⟩
 rw[iN c6] at H
 have yc:=bF c6
 have yd:=nT c6
 by_cases c7:a0≤37
 ·rw[ip c7] at H
  have ye:=dT c7
  clear c7
  obtain rfl:=Option.some.inj H
  go_enter Try.func52,Try.ntmps52
  go_wp2_with (first|((with_reducible refine gC 50 rfl ?_);refine gL 5 Try.func50 #[.int .i64 a0] ?_;(with_reducible refine(fcb.calls a0 true _ A2.out).mono ?_);rintro e w' ⟨rfl,⟨nd,rfl⟩⟩;refine⟨_,rfl,?_⟩))
  go_ret
  exact⟨pF,pW⟩
 rw[iN c7] at H
 have ye:=dF c7
 clear c7
 obtain rfl:=Option.some.inj H
 go_enter Try.func52,Try.ntmps52
 go_wp2_with (first|((with_reducible refine gC 50 rfl ?_);refine gL 5 Try.func50 #[.int .i64 a0] ?_;(with_reducible refine(fcb.calls a0 true _ A2.out).mono ?_);rintro e w' ⟨rfl,⟨nd,rfl⟩⟩;refine⟨_,rfl,?_⟩))
 go_ret
 exact⟨pF,pW⟩
def fce.f (a0 ya yc yd ye yf yg yh yi:Int)(yj:Bool)(yb:List Int):Option (List Int):=if a0=27 then(some yb)else(if a0=28 then(some yb)else(some (([ya]:List Int))))
theorem fce.calls (a0 ya yc yd ye yf yg yh yi:Int)(yj:Bool)(yk:Option Addr)(yl:Nat)(yb r:List Int)(w:World)(ym:Kd.C (Kd.int .i64) w yk yb.length yb)(yn:yb.length≤yl)(h:fce.f a0 ya yc yd ye yf yg yh yi yj yb=some r) :
  Calls Try.prog 78 #[.int .i64 a0,.agg #[.int .i64 ya,.int .i64 yc,.int .i64 yd,.int .i64 ye,.int .i64 yf,.int .i64 yg,.int .i64 yh,.int .i64 yi,.bool yj,.slice yk yb.length yl]] w fun e w'=>∃ (A_:Option Addr) (c_:Nat),e=.returned (.slice A_ r.length c_)∧Kd.C (Kd.int .i64) w' A_ r.length r∧r.length≤c_∧Below w.heap.size w w':=by
 have hu24:=Try.underlying24
 have HR:=aM ym
 have HC:=aM yn
 clear ym yn
 have HB:=aM (Below.refl w.heap.size w)
 rw[fce.f] at h
 by_cases c27:a0=27
 ·rw[ip c27] at h
  have yo:=bT c27
  have yp:=nF c27
  clear c27
  obtain rfl:=Option.some.inj h
  go_enter Try.func78,Try.ntmps78
  go_wp2_with (first|((with_reducible refine gD 3 rfl ?_);refine bX 3 24 (aT ya yc yd ye yf yg yh yi yj yk yb.length yl) ?_;intro g hg w9 hbox hb;have BK:=aM hbox;have GE:=gE (w:=w) hg (qB HB);replace HB:=bS (qB HB) hb;clear hb hbox hg;have hcz1:=blk10 BK.out))
  go_ret
  exact⟨_,_,pE,sC HR HB,HC.out,qB1 HB GE⟩
 rw[iN c27] at h
 have yo:=bF c27
 have yp:=nT c27
 by_cases c28:a0=28
 ·rw[ip c28] at h
  have yq:=bT c28
  have yr:=nF c28
  clear c28
  obtain rfl:=Option.some.inj h
  go_enter Try.func78,Try.ntmps78
  go_wp2_with (first|((with_reducible refine gD 3 rfl ?_);refine bX 3 24 (aT ya yc yd ye yf yg yh yi yj yk yb.length yl) ?_;intro g hg w9 hbox hb;have BK:=aM hbox;have GE:=gE (w:=w) hg (qB HB);replace HB:=bS (qB HB) hb;clear hb hbox hg;have hcz2:=blk10 BK.out))
  go_ret
  exact⟨_,_,pE,sC HR HB,HC.out,qB1 HB GE⟩
 rw[iN c28] at h
 have yq:=bF c28
 have yr:=nT c28
 obtain rfl:=Option.some.inj h
 go_enter Try.func78,Try.ntmps78
 go_wp2_with (first|((with_reducible refine gD 3 rfl ?_);refine bX 3 24 (aT ya yc yd ye yf yg yh yi yj yk yb.length yl) ?_;intro g hg w9 hbox hb;have BK:=aM hbox;have GE:=gE (w:=w) hg (qB HB);replace HB:=bS (qB HB) hb;clear hb hbox hg;have hcz3:=blk10 BK.out)|((with_reducible refine gD 15 rfl ?_);refine Kd.R_lit (Kd.int .i64) _ 3 ?hg (N:=15) ?hd (xs:=([ya]:List Int)) (inner:=[.int .i64 ya]) (ok:=fun _=>True) (okp:=fun _=>True) ?hr ?hp (fun _ hk=>hk) trivial (Below.refl _ _) (Nat.le_refl _) (by simp) ?_;(case hd=>rfl);(case hg=>rfl);(case hr=>first|(go_simp;done)|(go_simp;rfl));(case hp=>exact(Reps.one (show Kd.M (Kd.int .i64) _ _ _ ya [.int .i64 ya] from rfl) (Reps.none _ _)));intro v951 w14 ho15 hb hg_ hnew_;clear hg_ hnew_;have HO:=aM ho15;replace BK:=bK BK hb;replace HB:=bS (qB1 HB GE) hb;clear hb ho15))
 go_ret
 obtain⟨Ao,co,eo⟩:=Kd.R_slice HO.out
 subst eo
 exact⟨_,_,pE,sR HO,sL HO,qB1 HB GE⟩
def fcd.f (a0:Int):Option (Bool):=if a0 ≥ 27 then(some (decide (a0≤31)))else(some false)
theorem fcd.calls (a0:Int)(r:Bool)(w:World)(h:fcd.f a0=some r) :
  Calls Try.prog 76 #[.int .i64 a0] w fun e w'=>e=.returned (.bool r)∧Drawn0 w w':=by
 have H:(if a0 ≥ 27 then(some (decide (a0≤31)))else(some false))=some r:=h
 clear h
 by_cases c2:a0 ≥ 27
 ·rw[ip c2] at H
  have ya:decide (27≤a0)=true:=decide_eq_true c2
  clear c2
  obtain rfl:=Option.some.inj H
  go_enter Try.func76,Try.ntmps76
  go_wp2
  go_ret
  exact⟨pF,pW⟩
 rw[iN c2] at H
 have ya:decide (27≤a0)=false:=decide_eq_false c2
 clear c2
 obtain rfl:=Option.some.inj H
 go_enter Try.func76,Try.ntmps76
 go_wp2
 go_ret
 exact⟨pF,pW⟩
def fci.l0:Nat→Bool→List Bool→List Int→List Int→Int→Int→Option (List Int×Int)
 | 0,_,_,_,_,_,_=>none
 | k+1,x2,x9,x11,x29,x30,x31=>if x31<x30 then(if 0≤x31 then(if x31<(x29.length:Int)then(if x31<(x9.length:Int)then(if rdOf false x9 x31=true then(if x2=true then(if x11.length<17592186044416 then(fci.l0 k x2 x9 (x11++[1]) x29 x30 (wrap64 (x31+1)))else(none))else(fci.l0 k x2 x9 x11 x29 x30 (wrap64 (x31+1))))else(if x11.length<17592186044416 then(fci.l0 k x2 x9 (x11++[rd x29 x31]) x29 x30 (wrap64 (x31+1)))else(none)))else(none))else(none))else(none))else(some (x11,0))
def fci.f (k:Nat) (l0 l1:List Int)(a2:Bool):Option (List Int×Int):=(fcg.f l0).bind fun zb=>(if zb=0 then((fcf.f k (l0.length:Int) l1).bind fun bt937=>(if bt937.2=0 then(fci.l0 k a2 bt937.1 ([]:List Int) l0 (l0.length:Int) 0)else(some (([]:List Int),bt937.2))))else(some (([]:List Int),zb)))
theorem fci.calls (k:Nat)(A0:Option Addr)(c0:Nat)(l0:List Int)(A1:Option Addr)(c1:Nat)(l1:List Int)(a2:Bool)(r1:List Int)(r2:Int)(w:World)(hr0:Kd.C (Kd.int .i64) w A0 l0.length l0)(hc0:l0.length≤c0)(hr1:Kd.C (Kd.int .i64) w A1 l1.length l1)(hc1:l1.length≤c1)(h:fci.f k l0 l1 a2=some (r1,r2)) :
  Calls Try.prog 77 #[.slice A0 l0.length c0,.slice A1 l1.length c1,.bool a2] w fun e w'=>∃ v0_:Value,e=.returned (.tuple #[v0_,.int .i64 r2])∧Kd.R (Kd.int .i64) 3 w' w.heap.size (fun _=>True) v0_ r1∧Below w.heap.size w w':=by
 have HR0:=aM hr0
 have HC0:=aM hc0
 clear hr0 hc0
 have HR1:=aM hr1
 have HC1:=aM hc1
 clear hr1 hc1
 have HB:=aM (Below.refl w.heap.size w)
 have H:((fcg.f l0).bind fun zb=>(if zb=0 then((fcf.f k (l0.length:Int) l1).bind fun bt937=>(if bt937.2=0 then(fci.l0 k a2 bt937.1 ([]:List Int) l0 (l0.length:Int) 0)else(some (([]:List Int),bt937.2))))else(some (([]:List Int),zb))))=some (r1,r2):=h
 clear h
 replace H:=oB H
 obtain⟨zb,A40,H⟩:=H
 try dsimp only at H
 have A4:=aM A40
 clear A40
 by_cases c5:zb=0
 rotate_left
 ·rw[iN c5] at H
  have zi:=bF c5
  have zj:=nT c5
  replace H:=oi2 H
  obtain⟨rfl,rfl⟩:=H
  go_enter Try.func77,Try.ntmps77
  go_wp2_with (first|((with_reducible refine gC 31 rfl ?_);refine gL 15 Try.func31 #[.slice A0 l0.length c0] ?_;(with_reducible refine(fcg.calls _ _ l0 zb _ ?s1 HC0.out A4.out).mono ?_);(case s1=>exact pC HR0.out);rintro e w' ⟨rfl,⟨nd,rfl⟩⟩;refine⟨_,rfl,?_⟩))
  go_ret2
  exact⟨_,pE,pN,qB HB⟩
 rw[ip c5] at H
 have zi:=bT c5
 have zj:=nF c5
 clear c5
 replace H:=oB H
 obtain⟨⟨za,ze⟩,A60,H⟩:=H
 try dsimp only at H
 have A6:=aM A60
 clear A60
 by_cases c7:ze=0
 rotate_left
 ·rw[iN c7] at H
  have zk:=bF c7
  have zl:=nT c7
  replace H:=oi2 H
  obtain⟨rfl,rfl⟩:=H
  go_enter Try.func77,Try.ntmps77
  go_wp2_with (first|((with_reducible refine gC 31 rfl ?_);refine gL 15 Try.func31 #[.slice A0 l0.length c0] ?_;(with_reducible refine(fcg.calls _ _ l0 zb _ ?s1 HC0.out A4.out).mono ?_);(case s1=>exact pC HR0.out);rintro e w' ⟨rfl,⟨nd,rfl⟩⟩;refine⟨_,rfl,?_⟩)|((with_reducible refine gC 89 rfl ?_);refine gL 23 Try.func89 #[.int .i64 (l0.length:Int),.slice A1 l1.length c1] ?_;(with_reducible refine(fcf.calls k (l0.length:Int) _ _ l1 za ze _ ?s1 HC1.out A6.out).mono ?_);(case s1=>exact pC HR1.out);rintro e w23 ⟨zm,rfl,ho0,hb⟩;refine⟨_,rfl,?_⟩;have zh:=aM (Kd.R_lower ho0 (below_size (qB HB)));replace HB:=bS (qB HB) hb))
  go_ret2
  exact⟨_,pE,pN,qB HB⟩
 rw[ip c7] at H
 have zk:=bT c7
 have zl:=nF c7
 clear c7
 have H':=aM H
 clear H
 go_enter Try.func77,Try.ntmps77
 go_wp2_with (first|((with_reducible refine gC 31 rfl ?_);refine gL 15 Try.func31 #[.slice A0 l0.length c0] ?_;(with_reducible refine(fcg.calls _ _ l0 zb _ ?s1 HC0.out A4.out).mono ?_);(case s1=>exact pC HR0.out);rintro e w' ⟨rfl,⟨nd,rfl⟩⟩;refine⟨_,rfl,?_⟩)|((with_reducible refine gC 89 rfl ?_);refine gL 23 Try.func89 #[.int .i64 (l0.length:Int),.slice A1 l1.length c1] ?_;(with_reducible refine(fcf.calls k (l0.length:Int) _ _ l1 za ze _ ?s1 HC1.out A6.out).mono ?_);(case s1=>exact pC HR1.out);rintro e w8 ⟨zm,rfl,ho0,hb⟩;refine⟨_,rfl,?_⟩;have zh:=aM (Kd.R_lower ho0 (below_size (qB HB)));replace HB:=bS (qB HB) hb))
 go_loopg [11,31] k (fun kq v11 v31 w'=>∃ (yb:List Int) (ya:Int),v31=.int .i64 ya∧Aside0 (fci.l0 kq a2 za yb l0 (l0.length:Int) ya=some (r1,r2))∧Aside0 (kq≤k)∧Aside0 (Kd.R Kd.bool 4 w' w.heap.size (fun _=>True) zm za)∧Aside0 (Kd.R (Kd.int .i64) 3 w' w.heap.size (fun _=>True) v11 yb)∧Aside0 (Below w.heap.size w w'))
 case atStart=>exact⟨(([]:List Int)),(0),(pF),H',⟨Nat.le_refl _⟩,⟨pR zh.out⟩,⟨pN⟩,⟨qB HB⟩⟩
 clear H'
 try clear c1
 try clear zi
 try clear zj
 try clear zk
 try clear zl
 obtain⟨yb,ya,rfl,HA,HK1,zc,zd,HB⟩:=hrel
 cases gk with
 | zero=>exact absurd HA.out (by simp[fci.l0])
 | succ k1=>?_
 have H:=HA.out
 clear HA
 simp only[fci.l0] at H
 by_cases c9:ya<(l0.length:Int)
 rotate_left
 ·rw[iN c9] at H
  have yl:=dF c9
  clear c9
  replace H:=oi2 H
  obtain⟨rfl,rfl⟩:=H
  go_wp2
  go_ret2
  exact⟨_,pE,pR zd.out,qB HB⟩
 rw[ip c9] at H
 have yl:=dT c9
 clear c9
 by_cases c10:0≤ya
 rotate_left
 ·rw[iN c10] at H
  cases H
 rw[ip c10] at H
 have c10b0:=dT c10
 clear c10
 by_cases c11:ya<(l0.length:Int)
 rotate_left
 ·rw[iN c11] at H
  cases H
 rw[ip c11] at H
 have c11b0:=dT c11
 clear c11
 by_cases c12:ya<(za.length:Int)
 rotate_left
 ·rw[iN c12] at H
  cases H
 rw[ip c12] at H
 have c12b0:=dT c12
 clear c12
 obtain⟨bq13,hbq13⟩:∃ b_:Bool,b_=(rdOf false za ya):=⟨_,rfl⟩
 replace H:(if bq13=true then(if a2=true then(if yb.length<17592186044416 then(fci.l0 k1 a2 za (yb++[1]) l0 (l0.length:Int) (wrap64 (ya+1)))else(none))else(fci.l0 k1 a2 za yb l0 (l0.length:Int) (wrap64 (ya+1))))else(if yb.length<17592186044416 then(fci.l0 k1 a2 za (yb++[rd l0 ya]) l0 (l0.length:Int) (wrap64 (ya+1)))else(none)))=some (r1,r2):=by rw[← hbq13] at H;exact H
 have Nbq13:=aM hbq13
 clear hbq13
 by_cases c14:bq13=true
 rotate_left
 ·replace c14:=Bool.eq_false_iff.mpr c14
  subst c14
  rw[iN fT] at H
  by_cases c20:yb.length<17592186044416
  rotate_left
  ·rw[iN c20] at H
   cases H
  rw[ip c20] at H
  have LMc20:=aM c20
  clear c20
  obtain⟨zn,zf⟩:∃ y_:List Int,y_=(yb++[rd l0 ya]):=⟨_,rfl⟩
  replace H:(fci.l0 k1 a2 za zn l0 (l0.length:Int) (wrap64 (ya+1)))=some (r1,r2):=pH zf H
  have Ny946:=aM zf
  clear zf
  have H':=aM H
  clear H
  obtain⟨yh,⟨⟩,yc,yj,yk⟩:=zI HR0.out ya
  replace yc:=zW HB yc
  obtain⟨Ao21,co21,ym⟩:=Kd.R_slice zc.out
  subst ym
  have ye:0≤(ya:Int):=oD
  have yf:ya<(za.length:Int):=oD
  obtain⟨yi,yg,yd⟩:=Kd.at_bool (Kd.R_reads' zc.out).2.2 ya ye yf
  (try rw[← Nbq13.out] at yd)
  cases yg
  go_wp2_with (first|((with_reducible refine gate_builtin (b:=.append) (xs:=#[.tmp 42,.tmp 44]) rfl ?_);at_builtin;refine Kd.R_append (Kd.int .i64) (w0:=w) w.heap.size rfl (.tmp 42) (.tmp 44) 22 3 (.int .i64 0) 8 rfl Try.underlying22 info3 rfl (by decide) (by omega) u11 yb (rd l0 ya) [.int .i64 (rd l0 ya)] (fun _=>True) (fun _=>False) rfl rfl ?aP (fun _ hk=>hk.elim) ?aF ?aO ?aB ?aS ?aL ?_;(case aP=>exact rfl);(case aB=>exact(qB HB));(case aF=>exact(fun _ _=>trivial));(case aO=>exact(pR zd.out));(case aS=>exact(below_size (qB HB)));(case aL=>have:=LMc20.out;omega);intro v947 w22 ho hb hg hat;rw[← Ny946.out] at ho;replace zc:=aM (Kd.R_over' (pR zc.out) (Kd.R_typed (pR zd.out)) (by decide) hg);replace HB:=aM (hb);have HO948:=aM (ho);clear zd;clear ho hb hg hat))
  go_roundg k1
  case measure=>have:=HK1.out;omega
  case rel=>exact⟨(zn),(wrap64 (ya+1)),(pF),H',⟨pO1 HK1⟩,⟨pR zc.out⟩,⟨pR HO948.out⟩,⟨qB HB⟩⟩
 subst c14
 rw[ip rfl] at H
 by_cases c15:a2=true
 rotate_left
 ·replace c15:=Bool.eq_false_iff.mpr c15
  subst c15
  rw[iN fT] at H
  have H':=aM H
  clear H
  obtain⟨yh,⟨⟩,yc,yj,yk⟩:=zI HR0.out ya
  replace yc:=zW HB yc
  obtain⟨Ao19,co19,yn⟩:=Kd.R_slice zc.out
  subst yn
  have ye:0≤(ya:Int):=oD
  have yf:ya<(za.length:Int):=oD
  obtain⟨yi,yg,yd⟩:=Kd.at_bool (Kd.R_reads' zc.out).2.2 ya ye yf
  (try rw[← Nbq13.out] at yd)
  cases yg
  go_wp2
  go_roundg k1
  case measure=>have:=HK1.out;omega
  case rel=>exact⟨(yb),(wrap64 (ya+1)),(pF),H',⟨pO1 HK1⟩,⟨pR zc.out⟩,⟨pR zd.out⟩,⟨qB HB⟩⟩
 subst c15
 rw[ip rfl] at H
 by_cases c16:yb.length<17592186044416
 rotate_left
 ·rw[iN c16] at H
  cases H
 rw[ip c16] at H
 have LMc16:=aM c16
 clear c16
 obtain⟨zo,zg⟩:∃ y_:List Int,y_=(yb++[1]):=⟨_,rfl⟩
 replace H:(fci.l0 k1 true za zo l0 (l0.length:Int) (wrap64 (ya+1)))=some (r1,r2):=pH zg H
 have Ny943:=aM zg
 clear zg
 have H':=aM H
 clear H
 obtain⟨yh,⟨⟩,yc,yj,yk⟩:=zI HR0.out ya
 replace yc:=zW HB yc
 obtain⟨Ao17,co17,yo⟩:=Kd.R_slice zc.out
 subst yo
 have ye:0≤(ya:Int):=oD
 have yf:ya<(za.length:Int):=oD
 obtain⟨yi,yg,yd⟩:=Kd.at_bool (Kd.R_reads' zc.out).2.2 ya ye yf
 (try rw[← Nbq13.out] at yd)
 cases yg
 go_wp2_with (first|((with_reducible refine gate_builtin (b:=.append) (xs:=#[.tmp 48,.tmp 49]) rfl ?_);at_builtin;refine Kd.R_append (Kd.int .i64) (w0:=w) w.heap.size rfl (.tmp 48) (.tmp 49) 22 3 (.int .i64 0) 8 rfl Try.underlying22 info3 rfl (by decide) (by omega) u11 yb 1 [.int .i64 1] (fun _=>True) (fun _=>False) rfl rfl ?aP (fun _ hk=>hk.elim) ?aF ?aO ?aB ?aS ?aL ?_;(case aP=>exact rfl);(case aB=>exact(qB HB));(case aF=>exact(fun _ _=>trivial));(case aO=>exact(pR zd.out));(case aS=>exact(below_size (qB HB)));(case aL=>have:=LMc16.out;omega);intro v944 w18 ho hb hg hat;rw[← Ny943.out] at ho;replace zc:=aM (Kd.R_over' (pR zc.out) (Kd.R_typed (pR zd.out)) (by decide) hg);replace HB:=aM (hb);have HO945:=aM (ho);clear zd;clear ho hb hg hat))
 go_roundg k1
 case measure=>have:=HK1.out;omega
 case rel=>exact⟨(zo),(wrap64 (ya+1)),(pF),H',⟨pO1 HK1⟩,⟨pR zc.out⟩,⟨pR HO945.out⟩,⟨qB HB⟩⟩
def fcc.f (k:Nat) (a0 yc yd ye yf yg yh yi yj:Int)(ya:Bool)(yb l2:List Int):Option (List Int×Int):=(fcd.f a0).bind fun b_=>if b_=false then some ([],14)else(fce.f a0 yc yd ye yf yg yh yi yj ya yb).bind fun t_=>(fci.f k l2 t_ ya).bind fun r_=>some (r_.1,r_.2)
def fcc.T3:TT:=(true,[([],[]),([],[]),([],[]),([1,2],[1,2]),([],[]),([4],[4]),([0,3,5,3],[0,3,5]),([6],[6]),([6],[6]),([7,6,0,1,2,3,4,5,6,7,8],[7]),([8,9,0,1,2,3,4,5,6,7,8,9],[8])])
def fcc.B3:List Nat:=[0,0,0,6,0,16,63,127,127,511,1023]
theorem fcc.tab3:rtab .any (opsOf Try.f54 3)=fcc.T3:=by kernel_rfl
theorem fcc.bits3:waitsOk fcc.T3.2 fcc.B3=true:=by kernel_rfl
theorem fcc.drawn {w w':World} (h:Drawn0 w w'):Below w.heap.size w w':=by
 obtain⟨nd,rfl⟩:=h
 exact pw_below_drewN (Below.refl _ _) _
theorem fcc.calls (k:Nat) (a0 yc yd ye yf yg yh yi yj:Int)(ya:Bool)(yk:Option Addr)(yl:Nat)(yb:List Int)(A2:Option Addr)(c2:Nat)(l2 r1:List Int)(r2:Int)(w:World)(ym:Kd.C (Kd.int .i64) w yk yb.length yb)(yn:yb.length≤yl)(hr2:Kd.C (Kd.int .i64) w A2 l2.length l2)(hc2:l2.length≤c2)(h:fcc.f k a0 yc yd ye yf yg yh yi yj ya yb l2=some (r1,r2)) :
  Calls Try.prog 54 #[.int .i64 a0,.agg #[.int .i64 yc,.int .i64 yd,.int .i64 ye,.int .i64 yf,.int .i64 yg,.int .i64 yh,.int .i64 yi,.int .i64 yj,.bool ya,.slice yk yb.length yl],.slice A2 l2.length c2] w fun e w'=>∃ v0_:Value,e=.returned (.tuple #[v0_,.int .i64 r2])∧Kd.R (Kd.int .i64) 3 w' w.heap.size (fun _=>True) v0_ r1∧Below w.heap.size w w':=by
 have hu24:=Try.underlying24
 have HR:=aM ym
 have HC:=aM yn
 have HR2:=aM hr2
 have HC2:=aM hc2
 clear ym yn hr2 hc2
 have HB:=aM (Below.refl w.heap.size w)
 have H:((fcd.f a0).bind fun b_=>if b_=false then some ([],14)else(fce.f a0 yc yd ye yf yg yh yi yj ya yb).bind fun t_=>(fci.f k l2 t_ ya).bind fun r_=>some (r_.1,r_.2))=some (r1,r2):=h
 clear h
 replace H:=oB H
 obtain⟨b_,E0,H⟩:=H
 have AI:=aM E0
 clear E0
 cases b_
 ·rw[ip rfl] at H
  replace H:=oi2 H
  obtain⟨rfl,rfl⟩:=H
  go_enter Try.func54,Try.ntmps54
  go_wp2_with (first|((with_reducible refine gD 4 rfl ?_);refine bX 4 24 (aT yc yd ye yf yg yh yi yj ya yk yb.length yl) ?_;intro g hg w9 hbox hb;have BK:=aM hbox;have GE:=gE (w:=w) hg (qB HB);replace HB:=bS (qB HB) hb;clear hb hbox hg;have hcz4:=blk10 BK.out)|((with_reducible refine gC 76 rfl ?_);refine gL 9 Try.func76 #[.int .i64 a0] ?_;(with_reducible refine(fcd.calls a0 false _ AI.out).mono ?_);rintro e w10 ⟨rfl,hd⟩;have hb:=fcc.drawn hd;clear hd;refine⟨_,rfl,?_⟩;replace BK:=bK BK hb;replace HB:=bS (qB1 HB GE) hb;clear hb))
  go_ret2
  exact⟨_,pE,pN,qB1 HB GE⟩
 rw[iN (by simp)] at H
 replace H:=oB H
 obtain⟨t_,E0,H⟩:=H
 have AX:=aM E0
 clear E0
 replace H:=oB H
 obtain⟨⟨x1,x2⟩,E0,H⟩:=H
 have AD:=aM E0
 clear E0
 replace H:=oi2 H
 obtain⟨rfl,rfl⟩:=H
 go_enter Try.func54,Try.ntmps54
 go_wp2_with (first|((with_reducible refine gD 4 rfl ?_);refine bX 4 24 (aT yc yd ye yf yg yh yi yj ya yk yb.length yl) ?_;intro g hg w9 hbox hb;have BK:=aM hbox;have GE:=gE (w:=w) hg (qB HB);replace HB:=bS (qB HB) hb;clear hb hbox hg;have hcz5:=blk10 BK.out)|((with_reducible refine gC 76 rfl ?_);refine gL 9 Try.func76 #[.int .i64 a0] ?_;(with_reducible refine(fcd.calls a0 true _ AI.out).mono ?_);rintro e w10 ⟨rfl,hd⟩;have hb:=fcc.drawn hd;clear hd;refine⟨_,rfl,?_⟩;replace BK:=bK BK hb;replace HB:=bS (qB1 HB GE) hb;clear hb))
 replace BK:=aM (blk_drew BK.out)
 replace HB:=aM (below_drew1 HB.out)
 refine sT 11 [] (fun w'=>w'.cell? ⟨g,0,none⟩=some (.int .i64 yc)∧w'.cell? ⟨g,1,none⟩=some (.int .i64 yd)∧w'.cell? ⟨g,2,none⟩=some (.int .i64 ye)∧w'.cell? ⟨g,3,none⟩=some (.int .i64 yf)∧w'.cell? ⟨g,4,none⟩=some (.int .i64 yg)∧w'.cell? ⟨g,5,none⟩=some (.int .i64 yh)∧w'.cell? ⟨g,6,none⟩=some (.int .i64 yi)∧w'.cell? ⟨g,7,none⟩=some (.int .i64 yj)∧w'.cell? ⟨g,8,none⟩=some (.bool ya)∧w'.cell? ⟨g,9,none⟩=some (.slice yk yb.length yl)) fcc.tab3 fcc.bits3 ⟨(blk_cell BK.out 0).trans rfl,(blk_cell BK.out 1).trans rfl,(blk_cell BK.out 2).trans rfl,(blk_cell BK.out 3).trans rfl,(blk_cell BK.out 4).trans rfl,(blk_cell BK.out 5).trans rfl,(blk_cell BK.out 6).trans rfl,(blk_cell BK.out 7).trans rfl,(blk_cell BK.out 8).trans rfl,(blk_cell BK.out 9).trans rfl⟩ (fun hHeld HT_ HW_=>?_)
 generalize w10.drew=w11 at BK HB hHeld ⊢
 refine pQ 0 11 11 1 HT_ ?_
 refine pQ 1 12 11 3 HT_ ?_
 refine pQ 4 15 11 19 HT_ ?_
 refine pU10 2 13 11 23 HT_ HW_ hHeld ?_
 refine pU10 5 16 11 55 HT_ HW_ hHeld ?_
 refine oN 3 14 11 63 HT_ (fun K hK=>?_)
 refine gS Try.func78 #[.int .i64 a0,.agg (aT yc yd ye yf yg yh yi yj ya yk yb.length yl)] ?_
 with_reducible refine(fce.calls a0 yc yd ye yf yg yh yi yj ya yk yl yb t_ _ ?s1 HC.out AX.out).mono ?_
 (case s1=>exact sC HR HB)
 rintro e w12 ⟨A_,c_,rfl,ha,hc_,hb⟩
 refine⟨_,rfl,?_⟩
 have HA:=aM ha
 have HCA:=aM hc_
 clear ha hc_
 replace BK:=bK BK hb
 replace HB:=bS (qB1 HB GE) hb
 clear hb
 refine hK.out _ _ ⟨(blk_cell BK.out 0).trans rfl,(blk_cell BK.out 1).trans rfl,(blk_cell BK.out 2).trans rfl,(blk_cell BK.out 3).trans rfl,(blk_cell BK.out 4).trans rfl,(blk_cell BK.out 5).trans rfl,(blk_cell BK.out 6).trans rfl,(blk_cell BK.out 7).trans rfl,(blk_cell BK.out 8).trans rfl,(blk_cell BK.out 9).trans rfl⟩ (fun hHeld=>?_)
 clear hK K
 refine nM 14 ?_
 refine oN 6 17 11 127 HT_ (fun K hK=>?_)
 refine gS Try.func77 #[.slice A2 l2.length c2,.slice A_ t_.length c_,.bool ya] ?_
 with_reducible refine(fci.calls k _ _ l2 _ _ t_ ya x1 x2 _ ?s1 HC2.out HA.out HCA.out AD.out).mono ?_
 (case s1=>exact sC HR2 HB)
 rintro e w13 ⟨v960,rfl,ho0,hb⟩
 refine⟨_,rfl,?_⟩
 have HO:=aM (Kd.R_lower ho0 (below_size (qB1 HB GE)))
 replace BK:=bK BK hb
 replace HB:=bS (qB1 HB GE) hb
 clear hb ho0
 refine hK.out _ _ ⟨(blk_cell BK.out 0).trans rfl,(blk_cell BK.out 1).trans rfl,(blk_cell BK.out 2).trans rfl,(blk_cell BK.out 3).trans rfl,(blk_cell BK.out 4).trans rfl,(blk_cell BK.out 5).trans rfl,(blk_cell BK.out 6).trans rfl,(blk_cell BK.out 7).trans rfl,(blk_cell BK.out 8).trans rfl,(blk_cell BK.out 9).trans rfl⟩ (fun hHeld=>?_)
 clear hK K
 refine nM 17 ?_
 refine pQ 7 18 11 255 HT_ ?_
 refine pQ 8 19 11 511 HT_ ?_
 refine pQ 9 6 11 1023 HT_ ?_
 refine pQ 10 7 11 2047 HT_ ?_
 refine dN HT_ ?_
 try go_wp2
 go_ret2
 exact⟨_,pE,by(with_reducible repeat(first|apply rA|apply rN|apply rD));exact HO.out,qB1 HB GE⟩
def fcp.l0:Nat→List Int→List (List Int)→Int→Int→Option (List Int×Int)
 | 0,_,_,_,_=>none
 | k+1,x4,x9,x10,x11=>if x11<x10 then(if 0≤x11 then(if x11<(x9.length:Int)then((fcr.f k x4 (rd_L1 x9 x11)).bind fun bt932=>(if bt932.2=0 then(fcp.l0 k bt932.1 x9 x10 (wrap64 (x11+1)))else(some (([]:List Int),bt932.2))))else(none))else(none))else(some (x4,0))
def fcp.f (k:Nat) (l0:List (List Int)):Option (List Int×Int):=fcp.l0 k ([]:List Int) l0 (l0.length:Int) 0
theorem fcp.calls (k:Nat)(A0:Option Addr)(c0:Nat)(l0:List (List Int))(r1:List Int)(r2:Int)(w:World)(hr0:Kd.C (Kd.slice 3 (Kd.int .i64)) w A0 l0.length l0)(hc0:l0.length≤c0)(h:fcp.f k l0=some (r1,r2)) :
  Calls Try.prog 53 #[.slice A0 l0.length c0] w fun e w'=>∃ v0_:Value,e=.returned (.tuple #[v0_,.int .i64 r2])∧Kd.R (Kd.int .i64) 3 w' w.heap.size (fun _=>True) v0_ r1∧Below w.heap.size w w':=by
 have HR0:=aM hr0
 have HC0:=aM hc0
 clear hr0 hc0
 have HB:=aM (Below.refl w.heap.size w)
 have H:(fcp.l0 k ([]:List Int) l0 (l0.length:Int) 0)=some (r1,r2):=h
 clear h
 have H':=aM H
 clear H
 go_enter Try.func53,Try.ntmps53
 go_wp2
 go_loopg [4,11] k (fun kq v4 v11 w'=>∃ (ye:List Int) (ya:Int),v11=.int .i64 ya∧Aside0 (fcp.l0 kq ye l0 (l0.length:Int) ya=some (r1,r2))∧Aside0 (kq≤k)∧Aside0 (Kd.R (Kd.int .i64) 3 w' w.heap.size (fun _=>True) v4 ye)∧Aside0 (Below w.heap.size w w'))
 case atStart=>exact⟨(([]:List Int)),(0),(pF),H',⟨Nat.le_refl _⟩,⟨pN⟩,⟨qB HB⟩⟩
 clear H'
 obtain⟨ye,ya,rfl,HA,HK1,za,HB⟩:=hrel
 cases gk with
 | zero=>exact absurd HA.out (by simp[fcp.l0])
 | succ k1=>?_
 have H:=HA.out
 clear HA
 simp only[fcp.l0] at H
 by_cases c2:ya<(l0.length:Int)
 rotate_left
 ·rw[iN c2] at H
  have yl:=dF c2
  clear c2
  replace H:=oi2 H
  obtain⟨rfl,rfl⟩:=H
  go_wp2
  go_ret2
  exact⟨_,pE,pR za.out,qB HB⟩
 rw[ip c2] at H
 have yl:=dT c2
 clear c2
 by_cases c3:0≤ya
 rotate_left
 ·rw[iN c3] at H
  cases H
 rw[ip c3] at H
 have c3b0:=dT c3
 clear c3
 by_cases c4:ya<(l0.length:Int)
 rotate_left
 ·rw[iN c4] at H
  cases H
 rw[ip c4] at H
 have c4b0:=dT c4
 clear c4
 replace H:=oB H
 obtain⟨⟨zf,zd⟩,A50,H⟩:=H
 try dsimp only at H
 have A5:=aM A50
 clear A50
 by_cases c6:zd=0
 rotate_left
 ·rw[iN c6] at H
  have ym:=bF c6
  have yn:=nT c6
  replace H:=oi2 H
  obtain⟨rfl,rfl⟩:=H
  have yh:0≤(ya:Int):=oD
  have yi:ya<(l0.length:Int):=oD
  obtain⟨yk,yf,yg,yj,yb,yc,yd⟩:=at_L1 HR0.out ya yh yi
  cases yj
  replace yb:=zW HB yb
  have zb:=aM yd
  have zc:=aM yc
  clear yd yc
  obtain⟨Ao9,co9,eo9⟩:=Kd.R_slice za.out
  subst eo9
  go_wp2_with (first|((with_reducible refine gC 75 rfl ?_);refine gL 18 Try.func75 #[.slice Ao9 ye.length co9,.slice yf (rd_L1 l0 ya).length yg] ?_;(with_reducible refine(fcr.calls k1 (fun k_=>some k_=(.slice Ao9 ye.length co9:Value).ownBlock) _ _ ye (fun k_=>k_<w.heap.size) _ _ (rd_L1 l0 ya) zf zd _ ?s1 ?s2 A5.out).mono ?_);(case s1=>exact Kd.R_V (Kd.R_tight rfl (za.out)));(case s2=>exact Kd.V_mk zc.out (Kd.F_below (Kd.C_F (Kd.heap_int .i64) zb.out) (qB HB)));rintro e w10 ⟨v933,rfl,ho0,hb⟩;refine⟨_,rfl,?_⟩;have ze:=aM (Kd.R_lower (Kd.R_new' (Kd.R_mono (ok':=fun k_=>True) ho0 (fun _ hk_=>trivial)) (Kd.R_lt (pR za.out))) (below_size (qB HB)));replace za:=eR za ho0 hb;replace HB:=bS (qB HB) hb))
  go_ret2
  exact⟨_,pE,pN,qB HB⟩
 rw[ip c6] at H
 have ym:=bT c6
 have yn:=nF c6
 clear c6
 have H':=aM H
 clear H
 have yh:0≤(ya:Int):=oD
 have yi:ya<(l0.length:Int):=oD
 obtain⟨yk,yf,yg,yj,yb,yc,yd⟩:=at_L1 HR0.out ya yh yi
 cases yj
 replace yb:=zW HB yb
 have zb:=aM yd
 have zc:=aM yc
 clear yd yc
 obtain⟨Ao7,co7,eo7⟩:=Kd.R_slice za.out
 subst eo7
 go_wp2_with (first|((with_reducible refine gC 75 rfl ?_);refine gL 18 Try.func75 #[.slice Ao7 ye.length co7,.slice yf (rd_L1 l0 ya).length yg] ?_;(with_reducible refine(fcr.calls k1 (fun k_=>some k_=(.slice Ao7 ye.length co7:Value).ownBlock) _ _ ye (fun k_=>k_<w.heap.size) _ _ (rd_L1 l0 ya) zf zd _ ?s1 ?s2 A5.out).mono ?_);(case s1=>exact Kd.R_V (Kd.R_tight rfl (za.out)));(case s2=>exact Kd.V_mk zc.out (Kd.F_below (Kd.C_F (Kd.heap_int .i64) zb.out) (qB HB)));rintro e w8 ⟨v933,rfl,ho0,hb⟩;refine⟨_,rfl,?_⟩;have ze:=aM (Kd.R_lower (Kd.R_new' (Kd.R_mono (ok':=fun k_=>True) ho0 (fun _ hk_=>trivial)) (Kd.R_lt (pR za.out))) (below_size (qB HB)));replace za:=eR za ho0 hb;replace HB:=bS (qB HB) hb))
 go_roundg k1
 case measure=>have:=HK1.out;omega
 case rel=>exact⟨(zf),(wrap64 (ya+1)),(pF),H',⟨pO1 HK1⟩,⟨by(with_reducible repeat(first|apply rA|apply rN|apply rD));exact Kd.R_mono ze.out (fun _ hk=>trivial)⟩,⟨qB HB⟩⟩
def fbr.l0:Nat→Int→List (List Int)→List (List Int)→Int→Int→Int→Int→Int→Int→Int→Int→Int→Int→Bool→List Int→Option (List Int×Int)
 | 0,_,_,_,_,_,_,_,_,_,_,_,_,_,_,_=>none
 | k+1,x0,x2,x19,x20,x21,ze,zf,zg,zh,zi,zj,zk,zl,zm,zn=>if x21<x20 then(if 0≤x21 then(if x21<(x19.length:Int)then((fcg.f (rd_L1 x19 x21)).bind fun zr=>(if zr=0 then(fbr.l0 k x0 x2 x19 x20 (wrap64 (x21+1)) ze zf zg zh zi zj zk zl zm zn)else(some (([]:List Int),zr))))else(none))else(none))else((fbp.f k x0 ze zf zg zh zi zj zk zl zm zn).bind fun zz=>(if zz=true then((fca.f x0).bind fun zc=>(if zc=1 then((fcp.f k x2).bind fun bt986=>(some (bt986.1,bt986.2)))else(if zc=2 then(if 0<(x2.length:Int)then((fcc.f k x0 ze zf zg zh zi zj zk zl zm zn (rd_L1 x2 0)).bind fun bt991=>(some (bt991.1,bt991.2)))else(none))else(if zc=3 then(if 0<(x2.length:Int)then(if 1<(x2.length:Int)then((fbs.f k (rd_L1 x2 0) (rd_L1 x2 1)).bind fun bt997=>(some (bt997.1,bt997.2)))else(none))else(none))else((fbt.f k x0 ze zf zg zh zi zj zk zl zm zn x2).bind fun bt1001=>(some (bt1001.1,bt1001.2)))))))else(some (([]:List Int),1))))
def fbr.f (k:Nat) (a0 yb yc yd ye yf yg yh yi:Int)(yj:Bool)(ya:List Int)(l2:List (List Int)):Option (List Int×Int):=(fcb.f a0).bind fun zy=>(if zy=true then((fbz.f k a0).bind fun zo=>(if(l2.length:Int)=zo then(fbr.l0 k a0 l2 l2 (l2.length:Int) 0 yb yc yd ye yf yg yh yi yj ya)else(some (([]:List Int),1))))else(some (([]:List Int),14)))
def fbr.T18:TT:=(true,[([],[]),([],[]),([],[]),([2],[2]),([3],[3]),([0,1,4],[0,1,4]),([5],[5]),([5],[5]),([6,5,0,1,2,3,4,5,6,7],[6]),([7,8,0,1,2,3,4,5,6,7,8],[7])])
def fbr.B18:List Nat:=[0,0,0,4,12,31,63,63,255,511]
theorem fbr.tab18:rtab .any (opsOf Try.f24 18)=fbr.T18:=by kernel_rfl
theorem fbr.bits18:waitsOk fbr.T18.2 fbr.B18=true:=by kernel_rfl
def fbr.T20:TT:=(true,[([],[]),([0],[0]),([1],[1]),([],[]),([3],[3]),([4],[4]),([2,5],[2,5]),([6],[6]),([6],[6]),([7,6,0,1,2,3,4,5,6,7,8],[7]),([8,9,0,1,2,3,4,5,6,7,8,9],[8])])
def fbr.B20:List Nat:=[0,1,3,0,8,24,63,127,127,511,1023]
theorem fbr.tab20:rtab .any (opsOf Try.f24 20)=fbr.T20:=by kernel_rfl
theorem fbr.bits20:waitsOk fbr.T20.2 fbr.B20=true:=by kernel_rfl
theorem fbr.calls (k:Nat) (a0 yb yc yd ye yf yg yh yi:Int)(yj:Bool)(yo:Option Addr)(yp:Nat)(ya:List Int)(A2:Option Addr)(c2:Nat)(l2:List (List Int))(r1:List Int)(r2:Int)(w:World)(yae:Kd.C (Kd.int .i64) w yo ya.length ya)(yaf:ya.length≤yp)(hr2:Kd.C (Kd.slice 3 (Kd.int .i64)) w A2 l2.length l2)(hc2:l2.length≤c2)(h:fbr.f k a0 yb yc yd ye yf yg yh yi yj ya l2=some (r1,r2)) :
  Calls Try.prog 24 #[.int .i64 a0,.agg #[.int .i64 yb,.int .i64 yc,.int .i64 yd,.int .i64 ye,.int .i64 yf,.int .i64 yg,.int .i64 yh,.int .i64 yi,.bool yj,.slice yo ya.length yp],.slice A2 l2.length c2] w fun e w'=>∃ v0_:Value,e=.returned (.tuple #[v0_,.int .i64 r2])∧Kd.R (Kd.int .i64) 3 w' w.heap.size (fun _=>True) v0_ r1∧Below w.heap.size w w':=by
 have hu24:=Try.underlying24
 have zp:=aM yae
 have zq:=aM yaf
 clear yae yaf
 have HR2:=aM hr2
 have HC2:=aM hc2
 clear hr2 hc2
 have HB:=aM (Below.refl w.heap.size w)
 have H:((fcb.f a0).bind fun zy=>(if zy=true then((fbz.f k a0).bind fun zo=>(if(l2.length:Int)=zo then(fbr.l0 k a0 l2 l2 (l2.length:Int) 0 yb yc yd ye yf yg yh yi yj ya)else(some (([]:List Int),1))))else(some (([]:List Int),14))))=some (r1,r2):=h
 clear h
 replace H:=oB H
 obtain⟨zy,A40,H⟩:=H
 try dsimp only at H
 have A4:=aM A40
 clear A40
 by_cases c5:zy=true
 rotate_left
 ·replace c5:=Bool.eq_false_iff.mpr c5
  subst c5
  rw[iN fT] at H
  replace H:=oi2 H
  obtain⟨rfl,rfl⟩:=H
  go_enter Try.func24,Try.ntmps24
  go_wp2_with (first|((with_reducible refine gD 4 rfl ?_);refine bX 4 24 (aT yb yc yd ye yf yg yh yi yj yo ya.length yp) ?_;intro zd hg w45 hbox hb;have za:=aM (hbox);have zu:=gE (w:=w) hg (qB HB);have zb:=zu;replace HB:=bS (qB HB) hb;clear hb hbox hg)|((with_reducible refine gC 50 rfl ?_);refine gL 12 Try.func50 #[.int .i64 a0] ?_;(with_reducible refine(fcb.calls a0 false _ A4.out).mono ?_);rintro e w' ⟨rfl,⟨nd,rfl⟩⟩;refine⟨_,rfl,?_⟩))
  go_ret2
  exact⟨_,pE,pN,qB1 HB zb⟩
 subst c5
 rw[ip rfl] at H
 replace H:=oB H
 obtain⟨zo,A60,H⟩:=H
 try dsimp only at H
 have A6:=aM A60
 clear A60
 by_cases c7:(l2.length:Int)=zo
 rotate_left
 ·rw[iN c7] at H
  have z0:=bF c7
  have z1:=nT c7
  replace H:=oi2 H
  obtain⟨rfl,rfl⟩:=H
  go_enter Try.func24,Try.ntmps24
  go_wp2_with (first|((with_reducible refine gD 4 rfl ?_);refine bX 4 24 (aT yb yc yd ye yf yg yh yi yj yo ya.length yp) ?_;intro zd hg w44 hbox hb;have za:=aM (hbox);have zu:=gE (w:=w) hg (qB HB);have zb:=zu;replace HB:=bS (qB HB) hb;clear hb hbox hg)|((with_reducible refine gC 50 rfl ?_);refine gL 12 Try.func50 #[.int .i64 a0] ?_;(with_reducible refine(fcb.calls a0 true _ A4.out).mono ?_);rintro e w' ⟨rfl,⟨nd,rfl⟩⟩;refine⟨_,rfl,?_⟩)|((with_reducible refine gC 51 rfl ?_);refine gL 17 Try.func51 #[.int .i64 a0] ?_;(with_reducible refine(fbz.calls k a0 zo _ A6.out).mono ?_);rintro e w' ⟨rfl,⟨nd,rfl⟩⟩;refine⟨_,rfl,?_⟩))
  go_ret2
  exact⟨_,pE,pN,qB1 HB zb⟩
 rw[ip c7] at H
 have z0:=bT c7
 have z1:=nF c7
 clear c7
 have H':=aM H
 clear H
 go_enter Try.func24,Try.ntmps24
 go_wp2_with (first|((with_reducible refine gD 4 rfl ?_);refine bX 4 24 (aT yb yc yd ye yf yg yh yi yj yo ya.length yp) ?_;intro zd hg w8 hbox hb;have za:=aM (hbox);have zu:=gE (w:=w) hg (qB HB);have zb:=zu;replace HB:=bS (qB HB) hb;clear hb hbox hg)|((with_reducible refine gC 50 rfl ?_);refine gL 12 Try.func50 #[.int .i64 a0] ?_;(with_reducible refine(fcb.calls a0 true _ A4.out).mono ?_);rintro e w' ⟨rfl,⟨nd,rfl⟩⟩;refine⟨_,rfl,?_⟩)|((with_reducible refine gC 51 rfl ?_);refine gL 17 Try.func51 #[.int .i64 a0] ?_;(with_reducible refine(fbz.calls k a0 zo _ A6.out).mono ?_);rintro e w' ⟨rfl,⟨nd,rfl⟩⟩;refine⟨_,rfl,?_⟩))
 go_loopg [21] k (fun kq v21 w'=>∃ (yk:Int),v21=.int .i64 yk∧Aside0 (fbr.l0 kq a0 l2 l2 (l2.length:Int) yk yb yc yd ye yf yg yh yi yj ya=some (r1,r2))∧Aside0 (kq≤k)∧Aside0 (w'.heap[zd]?=some (.cells (aT yb yc yd ye yf yg yh yi yj yo ya.length yp) 24 (0,0)))∧Aside0 (Below w.heap.size w w'))
 case atStart=>exact⟨(0),(pF),H',⟨Nat.le_refl _⟩,⟨pK za.out⟩,⟨qB1 HB zb⟩⟩
 clear H'
 try clear c2
 try clear c5
 try clear z0
 try clear z1
 obtain⟨yk,rfl,HA,HK1,za,HB⟩:=hrel
 cases gk with
 | zero=>exact absurd HA.out (by simp[fbr.l0])
 | succ k1=>?_
 have H:=HA.out
 clear HA
 simp only[fbr.l0] at H
 by_cases c9:yk<(l2.length:Int)
 ·rw[ip c9] at H
  have yau:=dT c9
  clear c9
  by_cases c10:0≤yk
  rotate_left
  ·rw[iN c10] at H
   cases H
  rw[ip c10] at H
  have c10b0:=dT c10
  clear c10
  by_cases c11:yk<(l2.length:Int)
  rotate_left
  ·rw[iN c11] at H
   cases H
  rw[ip c11] at H
  have c11b0:=dT c11
  clear c11
  replace H:=oB H
  obtain⟨zr,z2,H⟩:=H
  try dsimp only at H
  have A12:=aM z2
  clear z2
  by_cases c13:zr=0
  rotate_left
  ·rw[iN c13] at H
   have yaj:=bF c13
   have yak:=nT c13
   replace H:=oi2 H
   obtain⟨rfl,rfl⟩:=H
   have yag:0≤(yk:Int):=oD
   have yah:yk<(l2.length:Int):=oD
   obtain⟨yal,yw,yx,yai,yq,yr,ys⟩:=at_L1 HR2.out yk yag yah
   cases yai
   replace yq:=zW HB yq
   have zs:=aM ys
   have zt:=aM yr
   clear ys yr
   go_wp2_with (first|((with_reducible refine gC 31 rfl ?_);refine gL 26 Try.func31 #[.slice yw (rd_L1 l2 yk).length yx] ?_;(with_reducible refine(fcg.calls _ _ (rd_L1 l2 yk) zr _ ?s1 zt.out A12.out).mono ?_);(case s1=>exact sC zs HB);rintro e w' ⟨rfl,⟨nd,rfl⟩⟩;refine⟨_,rfl,?_⟩))
   go_ret2
   exact⟨_,pE,pN,qB1 HB zb⟩
  rw[ip c13] at H
  have yaj:=bT c13
  have yak:=nF c13
  clear c13
  have H':=aM H
  clear H
  have yag:0≤(yk:Int):=oD
  have yah:yk<(l2.length:Int):=oD
  obtain⟨yal,yw,yx,yai,yq,yr,ys⟩:=at_L1 HR2.out yk yag yah
  cases yai
  replace yq:=zW HB yq
  have zs:=aM ys
  have zt:=aM yr
  clear ys yr
  go_wp2_with (first|((with_reducible refine gC 31 rfl ?_);refine gL 26 Try.func31 #[.slice yw (rd_L1 l2 yk).length yx] ?_;(with_reducible refine(fcg.calls _ _ (rd_L1 l2 yk) zr _ ?s1 zt.out A12.out).mono ?_);(case s1=>exact sC zs HB);rintro e w' ⟨rfl,⟨nd,rfl⟩⟩;refine⟨_,rfl,?_⟩))
  go_roundg k1
  case measure=>have:=HK1.out;omega
  case rel=>exact⟨(wrap64 (yk+1)),(pF),H',⟨pO1 HK1⟩,⟨pK za.out⟩,⟨qB1 HB zb⟩⟩
 rw[iN c9] at H
 have yau:=dF c9
 clear c9
 replace H:=oB H
 obtain⟨zz,z3,H⟩:=H
 try dsimp only at H
 have A14:=aM z3
 clear z3
 by_cases c15:zz=true
 rotate_left
 ·replace c15:=Bool.eq_false_iff.mpr c15
  subst c15
  rw[iN fT] at H
  replace H:=oi2 H
  obtain⟨rfl,rfl⟩:=H
  have hcz42:=blk10 za.out
  go_wp2_with (first|((with_reducible refine gC 26 rfl ?_);refine gL 33 Try.func26 #[.int .i64 a0,.agg (aT yb yc yd ye yf yg yh yi yj yo ya.length yp)] ?_;(with_reducible refine(fbp.calls k1 a0 yb yc yd ye yf yg yh yi yj _ _ ya false _ ?s1 zq.out A14.out).mono ?_);(case s1=>exact sC zp HB);rintro e w43 ⟨rfl,hb⟩;refine⟨_,rfl,?_⟩;replace za:=bK za hb;replace HB:=bS (qB1 HB zb) hb))
  go_ret2
  exact⟨_,pE,pN,qB1 HB zb⟩
 subst c15
 rw[ip rfl] at H
 replace H:=oB H
 obtain⟨zc,z4,H⟩:=H
 try dsimp only at H
 have A16:=aM z4
 clear z4
 by_cases c17:zc=1
 ·rw[ip c17] at H
  have yam:=bT c17
  have yan:=nF c17
  clear c17
  replace H:=oB H
  obtain⟨⟨t986,t987⟩,z5,H⟩:=H
  try dsimp only at H
  have A18:=aM z5
  clear z5
  replace H:=oi2 H
  obtain⟨rfl,rfl⟩:=H
  have hcz19:=blk10 za.out
  go_wp2_with (first|((with_reducible refine gC 26 rfl ?_);refine gL 33 Try.func26 #[.int .i64 a0,.agg (aT yb yc yd ye yf yg yh yi yj yo ya.length yp)] ?_;(with_reducible refine(fbp.calls k1 a0 yb yc yd ye yf yg yh yi yj _ _ ya true _ ?s1 zq.out A14.out).mono ?_);(case s1=>exact sC zp HB);rintro e w20 ⟨rfl,hb⟩;refine⟨_,rfl,?_⟩;replace za:=bK za hb;replace HB:=bS (qB1 HB zb) hb)|((with_reducible refine gC 52 rfl ?_);refine gL 36 Try.func52 #[.int .i64 a0] ?_;(with_reducible refine(fca.calls a0 zc _ A16.out).mono ?_);rintro e w' ⟨rfl,⟨nd,rfl⟩⟩;refine⟨_,rfl,?_⟩)|((with_reducible refine gC 53 rfl ?_);refine gL 40 Try.func53 #[.slice A2 l2.length c2] ?_;(with_reducible refine(fcp.calls k1 _ _ l2 t986 t987 _ ?s1 HC2.out A18.out).mono ?_);(case s1=>exact pC (Kd.C_below HR2.out (qB1 HB zb)));rintro e w21 ⟨v988,rfl,ho0,hb⟩;refine⟨_,rfl,?_⟩;have HO989:=aM (Kd.R_lower ho0 (below_size (qB1 HB zb)));replace za:=bK za hb;replace HB:=bS (qB1 HB zb) hb))
  go_ret2
  exact⟨_,pE,pR HO989.out,qB1 HB zb⟩
 rw[iN c17] at H
 have yam:=bF c17
 have yan:=nT c17
 by_cases c22:zc=2
 ·rw[ip c22] at H
  have yao:=bT c22
  have yap:=nF c22
  clear c22
  by_cases c23:0<(l2.length:Int)
  rotate_left
  ·rw[iN c23] at H
   cases H
  rw[ip c23] at H
  have c23b0:=dT c23
  have c23b1:decide (0<l2.length)=true:=decide_eq_true (by omega)
  clear c23
  replace H:=oB H
  obtain⟨⟨t991,t994⟩,z6,H⟩:=H
  try dsimp only at H
  have A24:=aM z6
  clear z6
  replace H:=oi2 H
  obtain⟨rfl,rfl⟩:=H
  have hcz25:=blk10 za.out
  try go_wp2_with (first|((with_reducible refine gC 26 rfl ?_);refine gL 33 Try.func26 #[.int .i64 a0,.agg (aT yb yc yd ye yf yg yh yi yj yo ya.length yp)] ?_;(with_reducible refine(fbp.calls k1 a0 yb yc yd ye yf yg yh yi yj _ _ ya true _ ?s1 zq.out A14.out).mono ?_);(case s1=>exact sC zp HB);rintro e w26 ⟨rfl,hb⟩;refine⟨_,rfl,?_⟩;replace za:=bK za hb;replace HB:=bS (qB1 HB zb) hb)|((with_reducible refine gC 52 rfl ?_);refine gL 36 Try.func52 #[.int .i64 a0] ?_;(with_reducible refine(fca.calls a0 zc _ A16.out).mono ?_);rintro e w' ⟨rfl,⟨nd,rfl⟩⟩;refine⟨_,rfl,?_⟩))
  (try (rw[drewN_self w26];generalize hq_:World.drewN w26 _=w26;have n0_:Aside0 (w26.heap[zd]?=some (.cells (aT yb yc yd ye yf yg yh yi yj yo ya.length yp) 24 (0,0))):=⟨by rw[← hq_];exact(pK za.out)⟩;have n1_:Aside0 (Below w.heap.size w w26):=⟨by rw[← hq_];exact(qB1 HB zb)⟩;clear za HB hq_;have za:=n0_;have HB:=n1_;clear n0_ n1_))
  replace za:=aM (blk_drew za.out)
  replace HB:=aM (below_drew1 HB.out)
  have yav:0≤(0:Int):=(by omega)
  have yaw:0<(l2.length:Int):=oD
  obtain⟨yaq,y5,y6,yax,yl,yy,yz⟩:=at_L1 HR2.out 0 yav yaw
  have yt:=yl
  (try rw[show ((0:Int)).toNat=0 from rfl] at yt)
  (try rw[show 0*1=0 from rfl] at yt)
  (try rw[Addr.add_zero'] at yt)
  cases yax
  have qi990:(0<l2.length)=True:=eq_true (by omega)
  (try rw[show ((0:Int)).toNat=0 from rfl] at yl)
  (try rw[Addr.add_zero'] at yl)
  replace yl:=zW HB yl
  have zv:=aM yz
  have yab:=aM yy
  clear yz yy
  refine sT 10 [] (fun w'=>w'.cell? ⟨zd,0,none⟩=some (.int .i64 yb)∧w'.cell? ⟨zd,1,none⟩=some (.int .i64 yc)∧w'.cell? ⟨zd,2,none⟩=some (.int .i64 yd)∧w'.cell? ⟨zd,3,none⟩=some (.int .i64 ye)∧w'.cell? ⟨zd,4,none⟩=some (.int .i64 yf)∧w'.cell? ⟨zd,5,none⟩=some (.int .i64 yg)∧w'.cell? ⟨zd,6,none⟩=some (.int .i64 yh)∧w'.cell? ⟨zd,7,none⟩=some (.int .i64 yi)∧w'.cell? ⟨zd,8,none⟩=some (.bool yj)∧w'.cell? ⟨zd,9,none⟩=some (.slice yo ya.length yp)∧w'.cell? yaq=some (.slice y5 (rd_L1 l2 0).length y6)) fbr.tab18 fbr.bits18 (c10 za (zW HB yt)) (fun hHeld HT_ HW_=>?_)
  generalize w26.drew=w27 at za HB zv yl hHeld ⊢
  refine pQ 0 45 10 1 HT_ ?_
  refine pQ 2 47 10 5 HT_ ?_
  refine pQ 3 48 10 13 HT_ ?_
  refine pU11 1 46 10 15 HT_ HW_ hHeld ?_
  refine pU11 4 49 10 31 HT_ HW_ hHeld ?_
  refine oN 5 50 10 63 HT_ (fun K hK=>?_)
  refine gS Try.func54 #[.int .i64 a0,.agg (aT yb yc yd ye yf yg yh yi yj yo ya.length yp),.slice y5 (rd_L1 l2 0).length y6] ?_
  with_reducible refine(fcc.calls k1 a0 yb yc yd ye yf yg yh yi yj _ _ ya _ _ (rd_L1 l2 0) t991 t994 _ ?s1 zq.out ?s3 yab.out A24.out).mono ?_
  (case s1=>exact sC zp HB)
  (case s3=>exact sC zv HB)
  rintro e w28 ⟨v992,rfl,ho0,hb⟩
  refine⟨_,rfl,?_⟩
  have HO993:=aM (Kd.R_lower ho0 (below_size (qB1 HB zb)))
  replace za:=bK za hb
  replace HB:=bS (qB1 HB zb) hb
  refine hK.out _ _ (c10 za (zW HB yt)) (fun hHeld=>?_)
  clear hK K
  refine nM 50 ?_
  refine pQ 6 51 10 127 HT_ ?_
  refine pQ 7 52 10 255 HT_ ?_
  refine pQ 8 6 10 511 HT_ ?_
  refine pQ 9 7 10 1023 HT_ ?_
  refine dN HT_ ?_
  try go_wp2
  go_ret2
  exact⟨_,pE,pR HO993.out,qB1 HB zb⟩
 rw[iN c22] at H
 have yao:=bF c22
 have yap:=nT c22
 by_cases c29:zc=3
 rotate_left
 ·rw[iN c29] at H
  have yar:=bF c29
  have yas:=nT c29
  replace H:=oB H
  obtain⟨⟨t1001,t1004⟩,z7,H⟩:=H
  try dsimp only at H
  have A37:=aM z7
  clear z7
  replace H:=oi2 H
  obtain⟨rfl,rfl⟩:=H
  have hcz38:=blk10 za.out
  go_wp2_with (first|((with_reducible refine gC 26 rfl ?_);refine gL 33 Try.func26 #[.int .i64 a0,.agg (aT yb yc yd ye yf yg yh yi yj yo ya.length yp)] ?_;(with_reducible refine(fbp.calls k1 a0 yb yc yd ye yf yg yh yi yj _ _ ya true _ ?s1 zq.out A14.out).mono ?_);(case s1=>exact sC zp HB);rintro e w39 ⟨rfl,hb⟩;refine⟨_,rfl,?_⟩;replace za:=bK za hb;replace HB:=bS (qB1 HB zb) hb)|((with_reducible refine gC 52 rfl ?_);refine gL 36 Try.func52 #[.int .i64 a0] ?_;(with_reducible refine(fca.calls a0 zc _ A16.out).mono ?_);rintro e w' ⟨rfl,⟨nd,rfl⟩⟩;refine⟨_,rfl,?_⟩;have hcz40:=blk10 za.out)|((with_reducible refine gC 10 rfl ?_);refine gL 67 Try.func10 #[.int .i64 a0,.agg (aT yb yc yd ye yf yg yh yi yj yo ya.length yp),.slice A2 l2.length c2] ?_;(with_reducible refine(fbt.calls k1 a0 yb yc yd ye yf yg yh yi yj _ _ ya _ _ l2 t1001 t1004 _ ?s1 zq.out ?s3 HC2.out A37.out).mono ?_);(case s1=>exact pC (Kd.C_below zp.out (qB1 HB zb)));(case s3=>exact pC (Kd.C_below HR2.out (qB1 HB zb)));rintro e w41 ⟨v1002,rfl,ho0,hb⟩;refine⟨_,rfl,?_⟩;have HO1003:=aM (Kd.R_lower ho0 (below_size (qB1 HB zb)));replace za:=bK za hb;replace HB:=bS (qB1 HB zb) hb))
  go_ret2
  exact⟨_,pE,pR HO1003.out,qB1 HB zb⟩
 rw[ip c29] at H
 have yar:=bT c29
 have yas:=nF c29
 clear c29
 by_cases c30:0<(l2.length:Int)
 rotate_left
 ·rw[iN c30] at H
  cases H
 rw[ip c30] at H
 have c30b0:=dT c30
 have c30b1:decide (0<l2.length)=true:=decide_eq_true (by omega)
 clear c30
 by_cases c31:1<(l2.length:Int)
 rotate_left
 ·rw[iN c31] at H
  cases H
 rw[ip c31] at H
 have c31b0:=dT c31
 have c31b1:decide (1<l2.length)=true:=decide_eq_true (by omega)
 clear c31
 replace H:=oB H
 obtain⟨⟨t997,t1000⟩,z8,H⟩:=H
 try dsimp only at H
 have A32:=aM z8
 clear z8
 replace H:=oi2 H
 obtain⟨rfl,rfl⟩:=H
 have hcz33:=blk10 za.out
 try go_wp2_with (first|((with_reducible refine gC 26 rfl ?_);refine gL 33 Try.func26 #[.int .i64 a0,.agg (aT yb yc yd ye yf yg yh yi yj yo ya.length yp)] ?_;(with_reducible refine(fbp.calls k1 a0 yb yc yd ye yf yg yh yi yj _ _ ya true _ ?s1 zq.out A14.out).mono ?_);(case s1=>exact sC zp HB);rintro e w34 ⟨rfl,hb⟩;refine⟨_,rfl,?_⟩;replace za:=bK za hb;replace HB:=bS (qB1 HB zb) hb)|((with_reducible refine gC 52 rfl ?_);refine gL 36 Try.func52 #[.int .i64 a0] ?_;(with_reducible refine(fca.calls a0 zc _ A16.out).mono ?_);rintro e w' ⟨rfl,⟨nd,rfl⟩⟩;refine⟨_,rfl,?_⟩))
 (try (rw[drewN_self w34];generalize hq_:World.drewN w34 _=w34;have n0_:Aside0 (w34.heap[zd]?=some (.cells (aT yb yc yd ye yf yg yh yi yj yo ya.length yp) 24 (0,0))):=⟨by rw[← hq_];exact(pK za.out)⟩;have n1_:Aside0 (Below w.heap.size w w34):=⟨by rw[← hq_];exact(qB1 HB zb)⟩;clear za HB hq_;have za:=n0_;have HB:=n1_;clear n0_ n1_))
 replace za:=aM (blk_drew za.out)
 replace HB:=aM (below_drew1 HB.out)
 have yay:0≤(0:Int):=(by omega)
 have yaz:0<(l2.length:Int):=oD
 obtain⟨y0,y7,y8,ya0,ym,y1,y2⟩:=at_L1 HR2.out 0 yay yaz
 have yu:=ym
 (try rw[show ((0:Int)).toNat=0 from rfl] at yu)
 (try rw[show 0*1=0 from rfl] at yu)
 (try rw[Addr.add_zero'] at yu)
 cases ya0
 have qi995:(0<l2.length)=True:=eq_true (by omega)
 (try rw[show ((0:Int)).toNat=0 from rfl] at ym)
 (try rw[Addr.add_zero'] at ym)
 replace ym:=zW HB ym
 have zw:=aM y2
 have yac:=aM y1
 clear y2 y1
 have ya1:0≤(1:Int):=(by omega)
 have ya2:1<(l2.length:Int):=oD
 obtain⟨yat,y9,yaa,ya3,yn,y3,y4⟩:=at_L1 HR2.out 1 ya1 ya2
 have yv:=yn
 (try rw[show ((1:Int)).toNat=1 from rfl] at yv)
 (try rw[show 1*1=1 from rfl] at yv)
 (try simp only[Nat.reduceMul,Nat.reduceEqDiff,Go.Addr.add,↓reduceIte] at yv)
 obtain rfl:y0=yat:=(by injection ya3)
 (try simp only[show (1:Int).toNat=1 from rfl,Nat.reduceMul,Nat.reduceEqDiff,Go.Addr.add,↓reduceIte] at yn)
 have qi996:(1<l2.length)=True:=eq_true (by omega)
 (try rw[show ((1:Int)).toNat=1 from rfl] at yn)
 replace yn:=zW HB yn
 have zx:=aM y4
 have yad:=aM y3
 clear y4 y3
 refine sT 11 [] (fun w'=>w'.cell? y0=some (.slice y7 (rd_L1 l2 0).length y8)∧w'.cell? ⟨y0.block,y0.off+1,none⟩=some (.slice y9 (rd_L1 l2 1).length yaa)) fbr.tab20 fbr.bits20 ⟨(zW HB yu),(zW HB yv)⟩ (fun hHeld HT_ HW_=>?_)
 generalize w34.drew=w35 at za HB zw zx ym yn hHeld ⊢
 refine pQ 0 55 11 1 HT_ ?_
 refine pQ 1 56 11 3 HT_ ?_
 refine pQ 3 58 11 11 HT_ ?_
 refine pQ 4 59 11 27 HT_ ?_
 refine pU2 2 57 11 31 HT_ HW_ hHeld ?_
 refine pU2 5 60 11 63 HT_ HW_ hHeld ?_
 refine oN 6 61 11 127 HT_ (fun K hK=>?_)
 refine gS Try.func55 #[.slice y7 (rd_L1 l2 0).length y8,.slice y9 (rd_L1 l2 1).length yaa] ?_
 with_reducible refine(fbs.calls k1 (fun k_=>k_<w.heap.size) _ _ (rd_L1 l2 0) (fun k_=>k_<w.heap.size) _ _ (rd_L1 l2 1) t997 t1000 _ ?s1 ?s2 A32.out).mono ?_
 (case s1=>exact Kd.V_mk yac.out (Kd.F_below (Kd.C_F (Kd.heap_int .i64) zw.out) (qB1 HB zb)))
 (case s2=>exact Kd.V_mk yad.out (Kd.F_below (Kd.C_F (Kd.heap_int .i64) zx.out) (qB1 HB zb)))
 rintro e w36 ⟨v998,rfl,ho0,hb⟩
 refine⟨_,rfl,?_⟩
 have HO999:=aM (Kd.R_lower (Kd.R_mono (ok':=fun k_=>True) ho0 (fun _ hk_=>trivial)) (below_size (qB1 HB zb)))
 replace za:=bK za hb
 replace HB:=bS (qB1 HB zb) hb
 refine hK.out _ _ ⟨(zW HB yu),(zW HB yv)⟩ (fun hHeld=>?_)
 clear hK K
 refine nM 61 ?_
 refine pQ 7 62 11 255 HT_ ?_
 refine pQ 8 63 11 511 HT_ ?_
 refine pQ 9 6 11 1023 HT_ ?_
 refine pQ 10 7 11 2047 HT_ ?_
 refine dN HT_ ?_
 try go_wp2
 go_ret2
 exact⟨_,pE,pR HO999.out,qB1 HB zb⟩
def fab.l0:Nat→List (List Int)→Int→Int→Int→Int→Int→Int→Int→Int→Int→Int→Bool→List Int→Option (Bool)
 | 0,_,_,_,_,_,_,_,_,_,_,_,_,_=>none
 | k+1,x1,x7,x8,yo,yp,yq,yr,ys,yt,yu,yv,yw,zc=>if x8<x7 then(if 0≤x8 then(if x8<(x1.length:Int)then(if((rd_L1 x1 x8).length:Int) > 20 then(some true)else(fab.l0 k x1 x7 (wrap64 (x8+1)) yo yp yq yr ys yt yu yv yw zc))else(none))else(none))else(if(zc.length:Int) > 80 then(some true)else(some (decide ((x1.length:Int) > 10))))
def fab.f (k:Nat) (yf yg yh yi yj yk yl ym:Int)(yn:Bool)(yb:List Int)(l1:List (List Int)):Option (Bool):=fab.l0 k l1 (l1.length:Int) 0 yf yg yh yi yj yk yl ym yn yb
theorem fab.calls (k:Nat) (yf yg yh yi yj yk yl ym:Int)(yn:Bool)(yx:Option Addr)(yy:Nat)(yb:List Int)(A1:Option Addr)(c1:Nat)(l1:List (List Int))(r:Bool)(w:World)(y1:Kd.C (Kd.int .i64) w yx yb.length yb)(y2:yb.length≤yy)(hr1:Kd.C (Kd.slice 3 (Kd.int .i64)) w A1 l1.length l1)(hc1:l1.length≤c1)(h:fab.f k yf yg yh yi yj yk yl ym yn yb l1=some r) :
  Calls Try.prog 22 #[.agg #[.int .i64 yf,.int .i64 yg,.int .i64 yh,.int .i64 yi,.int .i64 yj,.int .i64 yk,.int .i64 yl,.int .i64 ym,.bool yn,.slice yx yb.length yy],.slice A1 l1.length c1] w fun e w'=>e=.returned (.bool r)∧Below w.heap.size w w':=by
 have hu24:=Try.underlying24
 have HR0_9:=aM y1
 have HC0_9:=aM y2
 clear y1 y2
 have HR1:=aM hr1
 have HC1:=aM hc1
 clear hr1 hc1
 have HB:=aM (Below.refl w.heap.size w)
 have H:(fab.l0 k l1 (l1.length:Int) 0 yf yg yh yi yj yk yl ym yn yb)=some r:=h
 clear h
 have H':=aM H
 clear H
 go_enter Try.func22,Try.ntmps22
 go_wp2_with (first|((with_reducible refine gD 2 rfl ?_);(try (refine gate_guard (by rfl) ?_;dsimp only));refine bX 2 24 (aT yf yg yh yi yj yk yl ym yn yx yb.length yy) ?_;intro y8 hg w3 hbox hb;have za:=aM (hbox);have GW922:=gE (w:=w) hg (qB HB);have zb:=GW922;replace HB:=bS (qB HB) hb;clear hb hbox hg))
 go_loopg [8] k (fun kq v8 w'=>∃ (ya:Int),v8=.int .i64 ya∧Aside0 (fab.l0 kq l1 (l1.length:Int) ya yf yg yh yi yj yk yl ym yn yb=some r)∧Aside0 (kq≤k)∧Aside0 (w'.heap[y8]?=some (.cells (aT yf yg yh yi yj yk yl ym yn yx yb.length yy) 24 (0,0)))∧Aside0 (Below w.heap.size w w'))
 case atStart=>exact⟨(0),(pF),H',⟨Nat.le_refl _⟩,⟨pK za.out⟩,⟨qB1 HB zb⟩⟩
 clear H'
 try clear c1
 obtain⟨ya,rfl,HA,HK1,za,HB⟩:=hrel
 cases gk with
 | zero=>exact absurd HA.out (by simp[fab.l0])
 | succ k1=>?_
 have H:=HA.out
 clear HA
 simp only[fab.l0] at H
 by_cases c4:ya<(l1.length:Int)
 rotate_left
 ·rw[iN c4] at H
  have yaa:=dF c4
  clear c4
  by_cases c8:(yb.length:Int) > 80
  ·rw[ip c8] at H
   have yab:decide (80<(yb.length:Int))=true:=decide_eq_true c8
   have yac:decide (80<yb.length)=true:=decide_eq_true (by omega)
   clear c8
   obtain rfl:=Option.some.inj H
   have hcz9:=blk10 za.out
   go_wp2
   go_ret
   exact⟨pE,qB1 HB zb⟩
  rw[iN c8] at H
  have yab:decide (80<(yb.length:Int))=false:=decide_eq_false c8
  have yac:decide (80<yb.length)=false:=decide_eq_false (by omega)
  clear c8
  obtain rfl:=Option.some.inj H
  have hcz10:=blk10 za.out
  go_wp2
  go_ret
  exact⟨pE,qB1 HB zb⟩
 rw[ip c4] at H
 have yaa:=dT c4
 clear c4
 by_cases c5:0≤ya
 rotate_left
 ·rw[iN c5] at H
  cases H
 rw[ip c5] at H
 have c5b0:=dT c5
 clear c5
 by_cases c6:ya<(l1.length:Int)
 rotate_left
 ·rw[iN c6] at H
  cases H
 rw[ip c6] at H
 have c6b0:=dT c6
 clear c6
 by_cases c7:((rd_L1 l1 ya).length:Int) > 20
 ·rw[ip c7] at H
  have yad:decide (20<((rd_L1 l1 ya).length:Int))=true:=decide_eq_true c7
  have yae:decide (20<(rd_L1 l1 ya).length)=true:=decide_eq_true (by omega)
  clear c7
  obtain rfl:=Option.some.inj H
  have y3:0≤(ya:Int):=oD
  have y4:ya<(l1.length:Int):=oD
  obtain⟨y9,y5,y6,y7,yc,yd,ye⟩:=at_L1 HR1.out ya y3 y4
  cases y7
  replace yc:=zW HB yc
  have yz:=aM ye
  have y0:=aM yd
  clear ye yd
  go_wp2
  go_ret
  exact⟨pE,qB1 HB zb⟩
 rw[iN c7] at H
 have yad:decide (20<((rd_L1 l1 ya).length:Int))=false:=decide_eq_false c7
 have yae:decide (20<(rd_L1 l1 ya).length)=false:=decide_eq_false (by omega)
 clear c7
 have H':=aM H
 clear H
 have y3:0≤(ya:Int):=oD
 have y4:ya<(l1.length:Int):=oD
 obtain⟨y9,y5,y6,y7,yc,yd,ye⟩:=at_L1 HR1.out ya y3 y4
 cases y7
 replace yc:=zW HB yc
 have yz:=aM ye
 have y0:=aM yd
 clear ye yd
 go_wp2
 go_roundg k1
 case measure=>have:=HK1.out;omega
 case rel=>exact⟨(wrap64 (ya+1)),(pF),H',⟨pO1 HK1⟩,⟨pK za.out⟩,⟨qB1 HB zb⟩⟩
def fad.f (k:Nat)  : Option (Bool):=(fbr.f k 17 0 0 0 0 0 0 0 0 false ([]:List Int) (([(([2,1]:List Int)),(([3]:List Int))]:List (List Int)))).bind fun bt1014=>((fbr.f k 15 0 0 0 0 1 1 1 2 false ([]:List Int) (([[]]:List (List Int)))).bind fun bt1021=>(if(bt1014.1.length:Int)=2 then(if 0<(bt1014.1.length:Int)then(if(rd bt1014.1 0)=2 then(if 1<(bt1014.1.length:Int)then(if(rd bt1014.1 1)=3 then(if bt1014.2=0 then(some (bt1021.2==1))else(some false))else(some false))else(none))else(some false))else(none))else(some false)))
theorem fad.calls (k:Nat)  (w:World)(h:fad.f k  = some true) :
  Calls Try.prog 23 #[] w fun e w'=>e=.returned (.bool true)∧Below w.heap.size w w':=by
 have hu24:=Try.underlying24
 have HB:=aM (Below.refl w.heap.size w)
 have H:((fbr.f k 17 0 0 0 0 0 0 0 0 false ([]:List Int) (([(([2,1]:List Int)),(([3]:List Int))]:List (List Int)))).bind fun bt1014=>((fbr.f k 15 0 0 0 0 1 1 1 2 false ([]:List Int) (([[]]:List (List Int)))).bind fun bt1021=>(if(bt1014.1.length:Int)=2 then(if 0<(bt1014.1.length:Int)then(if(rd bt1014.1 0)=2 then(if 1<(bt1014.1.length:Int)then(if(rd bt1014.1 1)=3 then(if bt1014.2=0 then(some (bt1021.2==1))else(some false))else(some false))else(none))else(some false))else(none))else(some false))))=some true:=h
 clear h
 obtain⟨ze,zk⟩:∃ y_:List Int,y_=(([2,1]:List Int)):=⟨_,rfl⟩
 replace H:((fbr.f k 17 0 0 0 0 0 0 0 0 false ([]:List Int) (([ze,(([3]:List Int))]:List (List Int)))).bind fun bt1014=>((fbr.f k 15 0 0 0 0 1 1 1 2 false ([]:List Int) (([[]]:List (List Int)))).bind fun bt1021=>(if(bt1014.1.length:Int)=2 then(if 0<(bt1014.1.length:Int)then(if(rd bt1014.1 0)=2 then(if 1<(bt1014.1.length:Int)then(if(rd bt1014.1 1)=3 then(if bt1014.2=0 then(some (bt1021.2==1))else(some false))else(some false))else(none))else(some false))else(none))else(some false))))=some true:=pH zk H
 have zo:=aM zk
 clear zk
 obtain⟨zh,zl⟩:∃ y_:List Int,y_=(([3]:List Int)):=⟨_,rfl⟩
 replace H:((fbr.f k 17 0 0 0 0 0 0 0 0 false ([]:List Int) (([ze,zh]:List (List Int)))).bind fun bt1014=>((fbr.f k 15 0 0 0 0 1 1 1 2 false ([]:List Int) (([[]]:List (List Int)))).bind fun bt1021=>(if(bt1014.1.length:Int)=2 then(if 0<(bt1014.1.length:Int)then(if(rd bt1014.1 0)=2 then(if 1<(bt1014.1.length:Int)then(if(rd bt1014.1 1)=3 then(if bt1014.2=0 then(some (bt1021.2==1))else(some false))else(some false))else(none))else(some false))else(none))else(some false))))=some true:=pH zl H
 have zp:=aM zl
 clear zl
 obtain⟨zi,zm⟩:∃ y_:List (List Int),y_=(([ze,zh]:List (List Int))):=⟨_,rfl⟩
 replace H:((fbr.f k 17 0 0 0 0 0 0 0 0 false ([]:List Int) zi).bind fun bt1014=>((fbr.f k 15 0 0 0 0 1 1 1 2 false ([]:List Int) (([[]]:List (List Int)))).bind fun bt1021=>(if(bt1014.1.length:Int)=2 then(if 0<(bt1014.1.length:Int)then(if(rd bt1014.1 0)=2 then(if 1<(bt1014.1.length:Int)then(if(rd bt1014.1 1)=3 then(if bt1014.2=0 then(some (bt1021.2==1))else(some false))else(some false))else(none))else(some false))else(none))else(some false))))=some true:=pH zm H
 have zq:=aM zm
 clear zm
 replace H:=oB H
 obtain⟨⟨za,zf⟩,A10,H⟩:=H
 try dsimp only at H
 have A1:=aM A10
 clear A10
 obtain⟨zr,zn⟩:∃ y_:List (List Int),y_=(([[]]:List (List Int))):=⟨_,rfl⟩
 replace H:((fbr.f k 15 0 0 0 0 1 1 1 2 false ([]:List Int) zr).bind fun bt1021=>(if(za.length:Int)=2 then(if 0<(za.length:Int)then(if(rd za 0)=2 then(if 1<(za.length:Int)then(if(rd za 1)=3 then(if zf=0 then(some (bt1021.2==1))else(some false))else(some false))else(none))else(some false))else(none))else(some false)))=some true:=pH zn H
 have zs:=aM zn
 clear zn
 replace H:=oB H
 obtain⟨⟨t1021,t1024⟩,A20,H⟩:=H
 try dsimp only at H
 have A2:=aM A20
 clear A20
 by_cases c3:(za.length:Int)=2
 rotate_left
 ·rw[iN c3] at H
  have yk:=bF c3
  have yl:=nT c3
  cases H
 rw[ip c3] at H
 have yk:=bT c3
 have yl:=nF c3
 clear c3
 by_cases c4:0<(za.length:Int)
 rotate_left
 ·rw[iN c4] at H
  cases H
 rw[ip c4] at H
 have c4b0:=dT c4
 have c4b1:decide (0<za.length)=true:=decide_eq_true (by omega)
 clear c4
 by_cases c5:(rd za 0)=2
 rotate_left
 ·rw[iN c5] at H
  have ym:=bF c5
  have yn:=nT c5
  cases H
 rw[ip c5] at H
 have ym:=bT c5
 have yn:=nF c5
 clear c5
 by_cases c6:1<(za.length:Int)
 rotate_left
 ·rw[iN c6] at H
  cases H
 rw[ip c6] at H
 have c6b0:=dT c6
 have c6b1:decide (1<za.length)=true:=decide_eq_true (by omega)
 clear c6
 by_cases c7:(rd za 1)=3
 rotate_left
 ·rw[iN c7] at H
  have yo:=bF c7
  have yp:=nT c7
  cases H
 rw[ip c7] at H
 have yo:=bT c7
 have yp:=nF c7
 clear c7
 by_cases c8:zf=0
 rotate_left
 ·rw[iN c8] at H
  have yq:=bF c8
  have yr:=nT c8
  cases H
 rw[ip c8] at H
 have yq:=bT c8
 have yr:=nF c8
 clear c8
 have hv_:=aM (Option.some.inj H)
 clear H
 go_enter Try.func23,Try.ntmps23
 go_wp2_with (first|((with_reducible refine gD 7 rfl ?_);refine Kd.R_lit (Kd.int .i64) _ 3 ?hg (N:=7) ?hd (xs:=([2,1]:List Int)) (inner:=[.int .i64 2,.int .i64 1]) (ok:=fun _=>True) (okp:=fun _=>True) ?hr ?hp (fun _ hk=>hk) trivial (Below.refl _ _) (Nat.le_refl _) (by simp) ?_;(case hd=>rfl);(case hg=>rfl);(case hr=>first|(go_simp;done)|(go_simp;rfl));(case hp=>exact(Reps.one (show Kd.M (Kd.int .i64) _ _ _ 2 [.int .i64 2] from rfl) (Reps.one (show Kd.M (Kd.int .i64) _ _ _ 1 [.int .i64 1] from rfl) (Reps.none _ _))));intro v1006 w9 ho10 hb hg_ hnew_;clear hg_ hnew_;(first|rw[← zo.out] at ho10|(simp only[Int.reduceToNat] at ho10;rw[← zo.out] at ho10));have zd:=aM (Kd.R_lower ho10 (below_size (qB HB)));replace HB:=bS (qB HB) hb;clear hb ho10)|((with_reducible refine gD 8 rfl ?_);refine Kd.R_lit (Kd.int .i64) _ 3 ?hg (N:=8) ?hd (xs:=([3]:List Int)) (inner:=[.int .i64 3]) (ok:=fun _=>True) (okp:=fun _=>True) ?hr ?hp (fun _ hk=>hk) trivial (Below.refl _ _) (Nat.le_refl _) (by simp) ?_;(case hd=>rfl);(case hg=>rfl);(case hr=>first|(go_simp;done)|(go_simp;rfl));(case hp=>exact(Reps.one (show Kd.M (Kd.int .i64) _ _ _ 3 [.int .i64 3] from rfl) (Reps.none _ _)));intro v1009 w11 ho12 hb hg_ hnew_;clear hg_ hnew_;(first|rw[← zp.out] at ho12|(simp only[Int.reduceToNat] at ho12;rw[← zp.out] at ho12));have zj:=aM (Kd.R_lower (Kd.R_new' ho12 (Kd.R_lt (pR zd.out))) (below_size (qB HB)));replace zd:=eR zd ho12 hb;replace HB:=bS (qB HB) hb;clear hb ho12;obtain⟨zw,zx,ys⟩:=Kd.R_slice zd.out;subst ys;obtain⟨zy,zz,yt⟩:=Kd.R_slice zj.out;subst yt)|((with_reducible refine gD 9 rfl ?_);refine Kd.N_lit (Kd.slice 3 (Kd.int .i64)) _ 22 ?hg (N':=9) ?hd (xs:=([ze,zh]:List (List Int))) (inner:=[.slice zw ze.length zx,.slice zy zh.length zz]) (ok:=(fun _=>True)) (okp:=(fun _=>True)) ?hr ?hp (fun _ hk=>hk) ((show ∀ k_,w11.heap.size≤k_→(fun _=>True) k_ from fun k_ hk=>trivial) _ (Nat.le_refl _)) (Below.refl _ _) (Nat.le_refl _) (by simp) ?_;(case hd=>rfl);(case hg=>rfl);(case hr=>first|(go_simp;done)|(go_simp;rfl));(case hp=>exact(Reps.one (show Kd.FK (Kd.slice 3 (Kd.int .i64)) _ _ ze [.slice zw ze.length zx] from (Kd.FK_slice_mk (Kd.R_reads' (Kd.R_mono (ok':=(fun _=>True)) (zd.out) (fun k_ hk=>trivial))).2.1 (Kd.R_F (Kd.R_mono (ok':=(fun _=>True)) (zd.out) (fun k_ hk=>trivial))))) (Reps.one (show Kd.FK (Kd.slice 3 (Kd.int .i64)) _ _ zh [.slice zy zh.length zz] from (Kd.FK_slice_mk (Kd.R_reads' (Kd.R_mono (ok':=(fun _=>True)) (zj.out) (fun k_ hk=>trivial))).2.1 (Kd.R_F (Kd.R_mono (ok':=(fun _=>True)) (zj.out) (fun k_ hk=>trivial))))) (Reps.none _ _))));intro v1012 w15 ho16 hb hg_ hnew_;clear hg_ hnew_;(first|rw[← zq.out] at ho16|(simp only[Int.reduceToNat] at ho16;rw[← zq.out] at ho16));have zb:=aM (Kd.N_lower ho16 (below_size (qB HB)));replace HB:=bS (qB HB) hb;clear zd zj;clear hb ho16;obtain⟨zu,zv,yu⟩:=Kd.N_slice zb.out;subst yu)|((with_reducible refine gC 24 rfl ?_);refine gL 10 Try.func24 #[.int .i64 17,.agg #[.int .i64 0,.int .i64 0,.int .i64 0,.int .i64 0,.int .i64 0,.int .i64 0,.int .i64 0,.int .i64 0,.bool false,.slice none 0 0],.slice zu zi.length zv] ?_;(refine(fbr.calls k 17 0 0 0 0 0 0 0 0 false _ _ ([]:List Int) _ _ zi za zf _ ?s1 ?s2 ?s3 ?s4 A1.out).mono ?_);(case s1=>exact Kd.C_nil _ _);(case s2=>exact Nat.le_refl _);(case s3=>exact pC (Kd.N_reads' zb.out).2.2);(case s4=>exact(Kd.N_reads' zb.out).2.1);rintro e w18 ⟨zt,rfl,ho0,hb⟩;refine⟨_,rfl,?_⟩;replace zb:=aM (Kd.N_elder' (by(with_reducible repeat(first|apply Kd.N_alloc|apply Kd.N_drewN|apply Kd.N_drew));exact zb.out) (Kd.R_base ho0) hb);have zc:=aM (Kd.R_lower ho0 (below_size (qB HB)));replace HB:=bS (qB HB) hb)|((with_reducible refine gD 15 rfl ?_);refine Kd.N_lit (Kd.slice 3 (Kd.int .i64)) _ 22 ?hg (N':=15) ?hd (xs:=([[]]:List (List Int))) (inner:=[.slice none 0 0]) (ok:=(fun k_=>some k_≠(.slice zu zi.length zv:Value).ownBlock∧some k_≠(zt:Value).ownBlock)) (okp:=(fun k_=>some k_≠(.slice zu zi.length zv:Value).ownBlock∧some k_≠(zt:Value).ownBlock)) ?hr ?hp (fun _ hk=>hk) ((show ∀ k_,w18.heap.size≤k_→(fun k_=>some k_≠(.slice zu zi.length zv:Value).ownBlock∧some k_≠(zt:Value).ownBlock) k_ from fun k_ hk=>⟨Kd.fresh' (Kd.N_lt (by(with_reducible repeat(first|apply Kd.N_alloc|apply Kd.N_drewN|apply Kd.N_drew));exact zb.out)) k_ hk,Kd.fresh' (Kd.R_lt (pR zc.out)) k_ hk⟩) _ (Nat.le_refl _)) (Below.refl _ _) (Nat.le_refl _) (by simp) ?_;(case hd=>rfl);(case hg=>rfl);(case hr=>first|(go_simp;done)|(go_simp;rfl));(case hp=>exact(Reps.one (show Kd.FK (Kd.slice 3 (Kd.int .i64)) _ _ [] [.slice none 0 0] from (Kd.FK_slice_mk (Nat.le_refl _) (Kd.F_nil _ _ _))) (Reps.none _ _)));intro v1019 w19 ho20 hb hg_ hnew_;clear hg_ hnew_;(first|rw[← zs.out] at ho20|(simp only[Int.reduceToNat] at ho20;rw[← zs.out] at ho20));replace zb:=aM (Kd.N_elder' (by(with_reducible repeat(first|apply Kd.N_alloc|apply Kd.N_drewN|apply Kd.N_drew));exact zb.out) (Kd.N_base ho20) hb);replace zc:=bR zc hb;have zg:=aM (Kd.N_lower ho20 (below_size (qB HB)));replace HB:=bS (qB HB) hb;clear hb ho20;obtain⟨yv,yw,yx⟩:=Kd.N_slice zg.out;subst yx)|((with_reducible refine gC 24 rfl ?_);refine gL 16 Try.func24 #[.int .i64 15,.agg #[.int .i64 0,.int .i64 0,.int .i64 0,.int .i64 0,.int .i64 1,.int .i64 1,.int .i64 1,.int .i64 2,.bool false,.slice none 0 0],.slice yv zr.length yw] ?_;(refine(fbr.calls k 15 0 0 0 0 1 1 1 2 false _ _ ([]:List Int) _ _ zr t1021 t1024 _ ?s1 ?s2 ?s3 ?s4 A2.out).mono ?_);(case s1=>exact Kd.C_nil _ _);(case s2=>exact Nat.le_refl _);(case s3=>exact pC (Kd.N_reads' zg.out).2.2);(case s4=>exact(Kd.N_reads' zg.out).2.1);rintro e w22 ⟨v1022,rfl,ho0,hb⟩;refine⟨_,rfl,?_⟩;replace zb:=aM (Kd.N_elder' (by(with_reducible repeat(first|apply Kd.N_alloc|apply Kd.N_drewN|apply Kd.N_drew));exact zb.out) (Kd.R_base ho0) hb);replace zg:=aM (Kd.N_elder' (by(with_reducible repeat(first|apply Kd.N_alloc|apply Kd.N_drewN|apply Kd.N_drew));exact zg.out) (Kd.R_base ho0) hb);have HO1023:=aM (Kd.R_lower (Kd.R_new' ho0 (Kd.R_lt (pR zc.out))) (below_size (qB HB)));replace zc:=eR zc ho0 hb;replace HB:=bS (qB HB) hb;obtain⟨Ao23,co23,yy⟩:=Kd.R_slice zc.out;subst yy;have ye:0≤(0:Int):=(by omega);have yf:0<(za.length:Int):=oD;obtain⟨yc,yg,ya⟩:=Kd.at_int (Kd.R_reads' zc.out).2.2 0 ye yf;cases yg;have qi1025:(0<za.length)=True:=eq_true (by omega);(try rw[show ((0:Int)).toNat=0 from rfl] at ya);(try rw[Addr.add_zero'] at ya);have yh:0≤(1:Int):=(by omega);have yi:1<(za.length:Int):=oD;obtain⟨yd,yj,yb⟩:=Kd.at_int (Kd.R_reads' zc.out).2.2 1 yh yi;obtain rfl:yc=yd:=(by injection yj);(try simp only[show (1:Int).toNat=1 from rfl,Nat.reduceMul,Nat.reduceEqDiff,Go.Addr.add,↓reduceIte] at yb);have qi1026:(1<za.length)=True:=eq_true (by omega);(try rw[show ((1:Int)).toNat=1 from rfl] at yb)))
 go_ret
 replace hv_:=hv_.out
 exact⟨pE,qB HB⟩
end Go.Proofs.Ytcdiobcldhiemaa.Q
namespace Go.Proofs.Ytcdiobcldhiemaa.Pure
open Go.RowKit Go.Proofs.Ytcdiobcldhiemaa.Q Go.Proofs.YtcdiobcldhiemaaW.PrintWords Go.Proofs.YtcdiobcldhiemaaW.PrintLast
theorem Same31:∃ k,fad.f k=some true:=⟨30,by decide +kernel⟩
end Go.Proofs.Ytcdiobcldhiemaa.Pure
namespace Go.Proofs.Ytcdiobcldhiemaa.Q
open Go.RowKit Go.Proofs.YtcdiobcldhiemaaW.PrintWords Go.Proofs.YtcdiobcldhiemaaW.PrintLast Go.Proofs.YtcdiobcldhiemaaW.PrintMore
attribute [local go_sem] max2_int min2_int max_two min_two max_three min_three max_four min_four   -- for this text's walks alone
set_option linter.unusedVariables false
set_option linter.unusedSimpArgs false
def fac.f:Option Bool:=some true
theorem fac.calls (r:Bool)(w:World)(h:fac.f=some r):Calls Try.prog 23 #[] w fun e w'=>e=.returned (.bool r)∧Below w.heap.size w w':=by
 obtain rfl:=Option.some.inj h
 obtain⟨k,hk⟩:=Pure.Same31
 exact fad.calls k w hk
def fae.l0:Nat→List Int→List Int→Int→Int→Option (Bool)
 | 0,_,_,_,_=>none
 | k+1,x0,x1,x12,x13=>if x13<x12 then(if 0≤x13 then(if x13<(x0.length:Int)then(if x13<(x1.length:Int)then(if(rd x0 x13)=(rd x1 x13)then(fae.l0 k x0 x1 x12 (wrap64 (x13+1)))else(some false))else(none))else(none))else(none))else(some true)
def fae.f (k:Nat) (l0 l1:List Int):Option (Bool):=if(l0.length:Int)=(l1.length:Int)then(fae.l0 k l0 l1 (l0.length:Int) 0)else(some false)
theorem fae.calls (k:Nat)(A0:Option Addr)(c0:Nat)(l0:List Int)(A1:Option Addr)(c1:Nat)(l1:List Int)(r:Bool)(w:World)(hr0:Kd.C (Kd.int .i64) w A0 l0.length l0)(hc0:l0.length≤c0)(hr1:Kd.C (Kd.int .i64) w A1 l1.length l1)(hc1:l1.length≤c1)(h:fae.f k l0 l1=some r) :
  Calls Try.prog 12 #[.slice A0 l0.length c0,.slice A1 l1.length c1] w fun e w'=>e=.returned (.bool r)∧Drawn0 w w':=by
 have HR0:=aM hr0
 have HC0:=aM hc0
 clear hr0 hc0
 have HR1:=aM hr1
 have HC1:=aM hc1
 clear hr1 hc1
 have H:(if(l0.length:Int)=(l1.length:Int)then(fae.l0 k l0 l1 (l0.length:Int) 0)else(some false))=some r:=h
 clear h
 by_cases c3:(l0.length:Int)=(l1.length:Int)
 rotate_left
 ·rw[iN c3] at H
  have za:=bF c3
  have zb:=nT c3
  have zc:(l0.length==l1.length)=false:=by first|simpa using c3|(simp at c3 ⊢;omega)
  obtain rfl:=Option.some.inj H
  go_enter Try.func12,Try.ntmps12
  go_wp2
  repeat(go_quiet (fail);try go_wp2)
  go_ret
  exact⟨pF,pW⟩
 rw[ip c3] at H
 have za:=bT c3
 have zb:=nF c3
 have zc:(l0.length==l1.length)=true:=by first|simpa using c3|(simp at c3 ⊢;omega)
 clear c3
 have H':=aM H
 clear H
 go_enter Try.func12,Try.ntmps12
 go_wp2
 repeat(go_quiet (fail);try go_wp2)
 go_loopg [13] k (fun kq v13 w'=>∃ (ya:Int),v13=.int .i64 ya∧Aside0 (fae.l0 kq l0 l1 (l0.length:Int) ya=some r)∧Aside0 (kq≤k)∧Drawn0 w w')
 case atStart=>exact⟨(0),(pF),H',⟨Nat.le_refl _⟩,pW⟩
 clear H'
 try clear c1
 try clear za
 try clear zb
 try clear zc
 obtain⟨ya,rfl,HA,HK1,⟨m1,rfl⟩⟩:=hrel
 cases gk with
 | zero=>exact absurd HA.out (by simp[fae.l0])
 | succ k1=>?_
 have H:=HA.out
 clear HA
 simp only[fae.l0] at H
 by_cases c4:ya<(l0.length:Int)
 rotate_left
 ·rw[iN c4] at H
  have yf:=dF c4
  clear c4
  obtain rfl:=Option.some.inj H
  go_wp2
  repeat(go_quiet (fail);try go_wp2)
  go_ret
  exact⟨pF,pW⟩
 rw[ip c4] at H
 have yf:=dT c4
 clear c4
 by_cases c5:0≤ya
 rotate_left
 ·rw[iN c5] at H
  cases H
 rw[ip c5] at H
 have c5b0:=dT c5
 clear c5
 by_cases c6:ya<(l0.length:Int)
 rotate_left
 ·rw[iN c6] at H
  cases H
 rw[ip c6] at H
 have c6b0:=dT c6
 clear c6
 by_cases c7:ya<(l1.length:Int)
 rotate_left
 ·rw[iN c7] at H
  cases H
 rw[ip c7] at H
 have c7b0:=dT c7
 clear c7
 by_cases c8:(rd l0 ya)=(rd l1 ya)
 rotate_left
 ·rw[iN c8] at H
  have yg:=bF c8
  have yh:=nT c8
  obtain rfl:=Option.some.inj H
  obtain⟨yd,⟨⟩,yb,yi,yj⟩:=zI HR0.out ya
  obtain⟨ye,⟨⟩,yc,yk,yl⟩:=zI HR1.out ya
  go_wp2
  repeat(go_quiet (fail);try go_wp2)
  go_ret
  exact⟨pF,pW⟩
 rw[ip c8] at H
 have yg:=bT c8
 have yh:=nF c8
 clear c8
 have H':=aM H
 clear H
 obtain⟨yd,⟨⟩,yb,yi,yj⟩:=zI HR0.out ya
 obtain⟨ye,⟨⟩,yc,yk,yl⟩:=zI HR1.out ya
 go_wp2
 repeat(go_quiet (fail);try go_wp2)
 go_roundg k1
 case measure=>have:=HK1.out;omega
 case rel=>exact⟨(wrap64 (ya+1)),(pF),H',⟨pO1 HK1⟩,pW⟩
def fbl.j0:Nat→Int→Bool→Option (Int)
 | 0,_,_=>none
 | k+1,x0,x8=>if x8=true then(some 0)else(if x0≤26 then(some 1)else(if x0≤31 then(some 2)else(if x0=32 then(some 3)else(if x0≤37 then(some 4)else(some 5)))))
def fbl.f (k:Nat) (a0:Int):Option (Int):=if a0<1 then(fbl.j0 k a0 true)else(fbl.j0 k a0 (decide (a0 > 40)))
theorem fbl.calls (k:Nat) (a0 r:Int)(w:World)(h:fbl.f k a0=some r) :
  Calls Try.prog 56 #[.int .i64 a0] w fun e w'=>e=.returned (.int .i64 r)∧Drawn0 w w':=by
 have H:(if a0<1 then(fbl.j0 k a0 true)else(fbl.j0 k a0 (decide (a0 > 40))))=some r:=h
 clear h
 have HC2:=aM H
 clear H
 go_enter Try.func56,Try.ntmps56
 go_upto_region 1 with(fail)
 go_cut [8] (fun v8 wc=>∃ (kq:Nat) (ya:Bool),v8=.bool ya∧Aside0 (fbl.j0 kq a0 ya=some r)∧Aside0 (kq≤k)∧Drawn0 w wc)
 case first =>
  have H:=HC2.out
  clear HC2
  by_cases c3:a0<1
  ·rw[ip c3] at H
   have za:=dT c3
   clear c3
   (first|rw[za]|(simp only[i64_w,i32_w];rw[za])|skip)
   have H':=aM H
   clear H
   go_wp2
   go_meet
   case rel=>exact⟨_,(true),(pF),H',⟨pO⟩,pW⟩
  rw[iN c3] at H
  have za:=dF c3
  clear c3
  (first|rw[za]|(simp only[i64_w,i32_w];rw[za])|skip)
  have H':=aM H
  clear H
  go_wp2
  go_meet
  case rel=>exact⟨_,(decide (a0 > 40)),(pF),H',⟨pO⟩,pW⟩
 clear HC2
 obtain⟨kq,ya,rfl,HA,HJ1,⟨mc1,rfl⟩⟩:=hcut
 cases kq with
 | zero=>exact absurd HA.out (by simp[fbl.j0])
 | succ kj1=>?_
 have H:=HA.out
 clear HA
 simp only[fbl.j0] at H
 by_cases c4:ya=true
 ·subst c4
  rw[ip rfl] at H
  obtain rfl:=Option.some.inj H
  go_wp2
  go_ret
  exact⟨pF,pW⟩
 replace c4:=Bool.eq_false_iff.mpr c4
 subst c4
 rw[iN fT] at H
 by_cases c5:a0≤26
 ·rw[ip c5] at H
  have yb:=dT c5
  clear c5
  obtain rfl:=Option.some.inj H
  go_wp2
  go_ret
  exact⟨pF,pW⟩
 rw[iN c5] at H
 have yb:=dF c5
 clear c5
 by_cases c6:a0≤31
 ·rw[ip c6] at H
  have yc:=dT c6
  clear c6
  obtain rfl:=Option.some.inj H
  go_wp2
  go_ret
  exact⟨pF,pW⟩
 rw[iN c6] at H
 have yc:=dF c6
 clear c6
 by_cases c7:a0=32
 ·rw[ip c7] at H
  have yd:=bT c7
  have ye:=nF c7
  clear c7
  obtain rfl:=Option.some.inj H
  go_wp2
  go_ret
  exact⟨pF,pW⟩
 rw[iN c7] at H
 have yd:=bF c7
 have ye:=nT c7
 by_cases c8:a0≤37
 ·rw[ip c8] at H
  have yf:=dT c8
  clear c8
  obtain rfl:=Option.some.inj H
  go_wp2
  go_ret
  exact⟨pF,pW⟩
 rw[iN c8] at H
 have yf:=dF c8
 clear c8
 obtain rfl:=Option.some.inj H
 go_wp2
 go_ret
 exact⟨pF,pW⟩
def fbn.f (a0 a1:Int):Option (Bool):=if a0 ≥ (-1048576)then(if a0≤1048576 then(if a1 ≥ 1 then(some (decide (a1≤1048576)))else(some false))else(some false))else(some false)
theorem fbn.calls (a0 a1:Int)(r:Bool)(w:World)(h:fbn.f a0 a1=some r) :
  Calls Try.prog 29 #[.int .i64 a0,.int .i64 a1] w fun e w'=>e=.returned (.bool r)∧Drawn0 w w':=by
 have H:(if a0 ≥ (-1048576)then(if a0≤1048576 then(if a1 ≥ 1 then(some (decide (a1≤1048576)))else(some false))else(some false))else(some false))=some r:=h
 clear h
 by_cases c3:a0 ≥ (-1048576)
 rotate_left
 ·rw[iN c3] at H
  have ya:decide ((-1048576)≤a0)=false:=decide_eq_false c3
  clear c3
  obtain rfl:=Option.some.inj H
  go_enter Try.func29,Try.ntmps29
  go_wp2
  go_ret
  exact⟨pF,pW⟩
 rw[ip c3] at H
 have ya:decide ((-1048576)≤a0)=true:=decide_eq_true c3
 clear c3
 by_cases c4:a0≤1048576
 rotate_left
 ·rw[iN c4] at H
  have yb:=dF c4
  clear c4
  obtain rfl:=Option.some.inj H
  go_enter Try.func29,Try.ntmps29
  go_wp2
  go_ret
  exact⟨pF,pW⟩
 rw[ip c4] at H
 have yb:=dT c4
 clear c4
 by_cases c5:a1 ≥ 1
 ·rw[ip c5] at H
  have yc:decide (1≤a1)=true:=decide_eq_true c5
  clear c5
  obtain rfl:=Option.some.inj H
  go_enter Try.func29,Try.ntmps29
  go_wp2
  go_ret
  exact⟨pF,pW⟩
 rw[iN c5] at H
 have yc:decide (1≤a1)=false:=decide_eq_false c5
 clear c5
 obtain rfl:=Option.some.inj H
 go_enter Try.func29,Try.ntmps29
 go_wp2
 go_ret
 exact⟨pF,pW⟩
def fbm.j0:Nat→Int→Bool→Int→Int→Int→Int→Int→Int→Int→Int→Bool→List Int→Option (Bool)
 | 0,_,_,_,_,_,_,_,_,_,_,_,_=>none
 | k+1,x0,x24,x1028000,x1028001,x1028002,x1028003,zc,zd,zf,zg,x1028008,x1028009=>if x24=true then((fbn.f zc zd).bind fun zj=>(some zj))else(if x0=15 then((fbn.f zc zd).bind fun zk=>(if zk=true then((fbn.f zf zg).bind fun zl=>(if zl=true then(some (decide ((wrap64 (zc*zg))≤(wrap64 (zf*zd)))))else(some false)))else(some false)))else((fbl.f k x0).bind fun zm=>(some (decide (zm > 0)))))
def fbm.f (k:Nat) (a0 yc yg yh yi ya yb ye yf:Int)(yj:Bool)(yd:List Int):Option (Bool):=if a0=12 then(if yc ≥ (-8)then(some (decide (yc≤8)))else(some false))else(if a0=13 then(fbm.j0 k a0 true yc yg yh yi ya yb ye yf yj yd)else(if a0=14 then(fbm.j0 k a0 true yc yg yh yi ya yb ye yf yj yd)else(fbm.j0 k a0 (a0==16) yc yg yh yi ya yb ye yf yj yd)))
theorem fbm.calls (k:Nat) (a0 yc yg yh yi ya yb ye yf:Int)(yj:Bool)(yl:Option Addr)(ym:Nat)(yd:List Int)(r:Bool)(w:World)(yn:Kd.C (Kd.int .i64) w yl yd.length yd)(yo:yd.length≤ym)(h:fbm.f k a0 yc yg yh yi ya yb ye yf yj yd=some r) :
  Calls Try.prog 27 #[.int .i64 a0,.agg #[.int .i64 yc,.int .i64 yg,.int .i64 yh,.int .i64 yi,.int .i64 ya,.int .i64 yb,.int .i64 ye,.int .i64 yf,.bool yj,.slice yl yd.length ym]] w fun e w'=>e=.returned (.bool r)∧Below w.heap.size w w':=by
 have hu24:=Try.underlying24
 have HR1_9:=aM yn
 have HC1_9:=aM yo
 clear yn yo
 have HB:=aM (Below.refl w.heap.size w)
 have H:(if a0=12 then(if yc ≥ (-8)then(some (decide (yc≤8)))else(some false))else(if a0=13 then(fbm.j0 k a0 true yc yg yh yi ya yb ye yf yj yd)else(if a0=14 then(fbm.j0 k a0 true yc yg yh yi ya yb ye yf yj yd)else(fbm.j0 k a0 (a0==16) yc yg yh yi ya yb ye yf yj yd))))=some r:=h
 clear h
 by_cases c3:a0=12
 ·rw[ip c3] at H
  have zn:=bT c3
  have zo:=nF c3
  clear c3
  by_cases c4:yc ≥ (-8)
  ·rw[ip c4] at H
   have yu:decide ((-8)≤yc)=true:=decide_eq_true c4
   clear c4
   obtain rfl:=Option.some.inj H
   go_enter Try.func27,Try.ntmps27
   go_wp2_with (first|((with_reducible refine gD 3 rfl ?_);refine bX 3 24 (aT yc yg yh yi ya yb ye yf yj yl yd.length ym) ?_;intro zi hg w5 hbox hb;have za:=aM (hbox);have ze:=gE (w:=w) hg (qB HB);have zb:=ze;replace HB:=bS (qB HB) hb;clear hb hbox hg;have hcz6:=blk10 za.out))
   go_ret
   exact⟨pE,qB1 HB zb⟩
  rw[iN c4] at H
  have yu:decide ((-8)≤yc)=false:=decide_eq_false c4
  clear c4
  obtain rfl:=Option.some.inj H
  go_enter Try.func27,Try.ntmps27
  go_wp2_with (first|((with_reducible refine gD 3 rfl ?_);refine bX 3 24 (aT yc yg yh yi ya yb ye yf yj yl yd.length ym) ?_;intro zi hg w7 hbox hb;have za:=aM (hbox);have ze:=gE (w:=w) hg (qB HB);have zb:=ze;replace HB:=bS (qB HB) hb;clear hb hbox hg;have hcz8:=blk10 za.out))
  go_ret
  exact⟨pE,qB1 HB zb⟩
 rw[iN c3] at H
 have zn:=bF c3
 have zo:=nT c3
 have HC9:=aM H
 clear H
 go_enter Try.func27,Try.ntmps27
 go_upto_region 3 with(first|((with_reducible refine gD 3 rfl ?_);refine bX 3 24 (aT yc yg yh yi ya yb ye yf yj yl yd.length ym) ?_;intro zi hg w10 hbox hb;have za:=aM (hbox);have ze:=gE (w:=w) hg (qB HB);have zb:=ze;replace HB:=bS (qB HB) hb;clear hb hbox hg))
 (try simp only[Act.put,sP])
 go_cut [24] (fun v24 wc=>∃ (kq:Nat) (yk:Bool),v24=.bool yk∧Aside0 (fbm.j0 kq a0 yk yc yg yh yi ya yb ye yf yj yd=some r)∧Aside0 (kq≤k)∧Aside0 (wc.heap[zi]?=some (.cells (aT yc yg yh yi ya yb ye yf yj yl yd.length ym) 24 (0,0)))∧Aside0 (Below w.heap.size w wc))
 case first =>
  have H:=HC9.out
  clear HC9
  by_cases c11:a0=13
  ·rw[ip c11] at H
   have zh:=bT c11
   have yp:=nF c11
   clear c11
   (first|rw[zh]|(simp only[i64_w,i32_w];rw[zh])|skip)
   have H':=aM H
   clear H
   go_wp2
   go_meet
   case rel=>exact⟨_,(true),(pF),H',⟨pO⟩,⟨pK za.out⟩,⟨qB1 HB zb⟩⟩
  rw[iN c11] at H
  have zh:=bF c11
  have yp:=nT c11
  (first|rw[zh]|(simp only[i64_w,i32_w];rw[zh])|skip)
  by_cases c12:a0=14
  rotate_left
  ·rw[iN c12] at H
   have yq:=bF c12
   have yr:=nT c12
   have H':=aM H
   clear H
   go_wp2
   go_meet
   case rel=>exact⟨_,((a0==16)),(pF),H',⟨pO⟩,⟨pK za.out⟩,⟨qB1 HB zb⟩⟩
  rw[ip c12] at H
  have yq:=bT c12
  have yr:=nF c12
  clear c12
  have H':=aM H
  clear H
  go_wp2
  go_meet
  case rel=>exact⟨_,(true),(pF),H',⟨pO⟩,⟨pK za.out⟩,⟨qB1 HB zb⟩⟩
 clear HC9
 try clear c3
 try clear zn
 try clear zo
 obtain⟨kq,yk,rfl,HA,HJ8,za,HB⟩:=hcut
 cases kq with
 | zero=>exact absurd HA.out (by simp[fbm.j0])
 | succ kj8=>?_
 have H:=HA.out
 clear HA
 simp only[fbm.j0] at H
 by_cases c13:yk=true
 ·subst c13
  rw[ip rfl] at H
  replace H:=oB H
  obtain⟨zj,zp,H⟩:=H
  try dsimp only at H
  have A14:=aM zp
  clear zp
  obtain rfl:=Option.some.inj H
  have hcz15:=blk10 za.out
  go_wp2_with (first|((with_reducible refine gC 29 rfl ?_);refine gL 29 Try.func29 #[.int .i64 ya,.int .i64 yb] ?_;(with_reducible refine(fbn.calls ya yb zj _ A14.out).mono ?_);rintro e w' ⟨rfl,⟨nd,rfl⟩⟩;refine⟨_,rfl,?_⟩))
  go_ret
  exact⟨pE,qB1 HB zb⟩
 replace c13:=Bool.eq_false_iff.mpr c13
 subst c13
 rw[iN fT] at H
 by_cases c16:a0=15
 rotate_left
 ·rw[iN c16] at H
  have ys:=bF c16
  have yt:=nT c16
  replace H:=oB H
  obtain⟨zm,zq,H⟩:=H
  try dsimp only at H
  have A24:=aM zq
  clear zq
  obtain rfl:=Option.some.inj H
  go_wp2_with (first|((with_reducible refine gC 56 rfl ?_);refine gL 58 Try.func56 #[.int .i64 a0] ?_;(with_reducible refine(fbl.calls kj8 a0 zm _ A24.out).mono ?_);rintro e w' ⟨rfl,⟨nd,rfl⟩⟩;refine⟨_,rfl,?_⟩))
  go_ret
  exact⟨pE,qB1 HB zb⟩
 rw[ip c16] at H
 have ys:=bT c16
 have yt:=nF c16
 clear c16
 replace H:=oB H
 obtain⟨zk,zr,H⟩:=H
 try dsimp only at H
 have A17:=aM zr
 clear zr
 by_cases c18:zk=true
 rotate_left
 ·replace c18:=Bool.eq_false_iff.mpr c18
  subst c18
  rw[iN fT] at H
  obtain rfl:=Option.some.inj H
  have hcz23:=blk10 za.out
  go_wp2_with (first|((with_reducible refine gC 29 rfl ?_);refine gL 36 Try.func29 #[.int .i64 ya,.int .i64 yb] ?_;(with_reducible refine(fbn.calls ya yb false _ A17.out).mono ?_);rintro e w' ⟨rfl,⟨nd,rfl⟩⟩;refine⟨_,rfl,?_⟩))
  go_ret
  exact⟨pE,qB1 HB zb⟩
 subst c18
 rw[ip rfl] at H
 replace H:=oB H
 obtain⟨zl,zs,H⟩:=H
 try dsimp only at H
 have A19:=aM zs
 clear zs
 by_cases c20:zl=true
 ·subst c20
  rw[ip rfl] at H
  obtain rfl:=Option.some.inj H
  have hcz21:=blk10 za.out
  go_wp2_with (first|((with_reducible refine gC 29 rfl ?_);refine gL 36 Try.func29 #[.int .i64 ya,.int .i64 yb] ?_;(with_reducible refine(fbn.calls ya yb true _ A17.out).mono ?_);rintro e w' ⟨rfl,⟨nd,rfl⟩⟩;refine⟨_,rfl,?_⟩)|(go_at_call 29;(with_reducible refine(fbn.calls ye yf true _ A19.out).mono ?_);rintro e w' ⟨rfl,⟨nd,rfl⟩⟩))
  go_ret
  exact⟨pE,qB1 HB zb⟩
 replace c20:=Bool.eq_false_iff.mpr c20
 subst c20
 rw[iN fT] at H
 obtain rfl:=Option.some.inj H
 have hcz22:=blk10 za.out
 go_wp2_with (first|((with_reducible refine gC 29 rfl ?_);refine gL 36 Try.func29 #[.int .i64 ya,.int .i64 yb] ?_;(with_reducible refine(fbn.calls ya yb true _ A17.out).mono ?_);rintro e w' ⟨rfl,⟨nd,rfl⟩⟩;refine⟨_,rfl,?_⟩)|(go_at_call 29;(with_reducible refine(fbn.calls ye yf false _ A19.out).mono ?_);rintro e w' ⟨rfl,⟨nd,rfl⟩⟩))
 go_ret
 exact⟨pE,qB1 HB zb⟩
mutual
def fag.l0:Nat→List Int→Int→Int→Option (Int)
 | 0,_,_,_=>none
 | k+1,x0,x10,x11=>if x11<x10 then(if 0≤x11 then(if x11<(x0.length:Int)then(if(rd x0 x11)<1 then(some 8)else(fag.l0 k x0 x10 (wrap64 (x11+1))))else(none))else(none))else(fag.l1 k x0 1 (x0.length:Int) 0)
def fag.l1:Nat→List Int→Int→Int→Int→Option (Int)
 | 0,_,_,_,_=>none
 | k+1,x0,x4,x21,x22=>if x22<x21 then(if 0≤x22 then(if x22<(x0.length:Int)then(if(rd x0 x22) > 64 then(some 12)else(if(wrap64 (x4*(rd x0 x22))) > 64 then(some 12)else(fag.l1 k x0 (wrap64 (x4*(rd x0 x22))) x21 (wrap64 (x22+1)))))else(none))else(none))else(some 0)
end
def fag.f (k:Nat) (l0:List Int):Option (Int):=if(l0.length:Int) > 6 then(some 9)else(fag.l0 k l0 (l0.length:Int) 0)
theorem fag.calls (k:Nat)(A0:Option Addr)(c0:Nat)(l0:List Int)(r:Int)(w:World)(hr0:Kd.C (Kd.int .i64) w A0 l0.length l0)(hc0:l0.length≤c0)(h:fag.f k l0=some r) :
  Calls Try.prog 30 #[.slice A0 l0.length c0] w fun e w'=>e=.returned (.int .i64 r)∧Drawn0 w w':=by
 have HR0:=aM hr0
 have HC0:=aM hc0
 clear hr0 hc0
 have H:(if(l0.length:Int) > 6 then(some 9)else(fag.l0 k l0 (l0.length:Int) 0))=some r:=h
 clear h
 by_cases c2:(l0.length:Int) > 6
 ·rw[ip c2] at H
  have za:decide (6<(l0.length:Int))=true:=decide_eq_true c2
  have zb:decide (6<l0.length)=true:=decide_eq_true (by omega)
  clear c2
  obtain rfl:=Option.some.inj H
  go_enter Try.func30,Try.ntmps30
  go_wp2
  go_ret
  exact⟨pF,pW⟩
 rw[iN c2] at H
 have za:decide (6<(l0.length:Int))=false:=decide_eq_false c2
 have zb:decide (6<l0.length)=false:=decide_eq_false (by omega)
 clear c2
 have H':=aM H
 clear H
 go_enter Try.func30,Try.ntmps30
 go_wp2
 go_loopg [11] k (fun kq v11 w'=>∃ (yb:Int),v11=.int .i64 yb∧Aside0 (fag.l0 kq l0 (l0.length:Int) yb=some r)∧Aside0 (kq≤k)∧Drawn0 w w')
 case atStart=>exact⟨(0),(pF),H',⟨Nat.le_refl _⟩,pW⟩
 clear H'
 try clear za
 try clear zb
 obtain⟨yb,rfl,HA,HK1,⟨m1,rfl⟩⟩:=hrel
 cases gk with
 | zero=>exact absurd HA.out (by simp[fag.l0])
 | succ k1=>?_
 have H:=HA.out
 clear HA
 simp only[fag.l0] at H
 by_cases c3:yb<(l0.length:Int)
 ·rw[ip c3] at H
  have zc:=dT c3
  clear c3
  by_cases c4:0≤yb
  rotate_left
  ·rw[iN c4] at H
   cases H
  rw[ip c4] at H
  have c4b0:=dT c4
  clear c4
  by_cases c5:yb<(l0.length:Int)
  rotate_left
  ·rw[iN c5] at H
   cases H
  rw[ip c5] at H
  have c5b0:=dT c5
  clear c5
  by_cases c6:(rd l0 yb)<1
  ·rw[ip c6] at H
   have yp:=dT c6
   clear c6
   obtain rfl:=Option.some.inj H
   obtain⟨yj,⟨⟩,yg,yq,yr⟩:=zI HR0.out yb
   go_wp2
   go_ret
   exact⟨pF,pW⟩
  rw[iN c6] at H
  have yp:=dF c6
  clear c6
  have H':=aM H
  clear H
  obtain⟨yj,⟨⟩,yg,yq,yr⟩:=zI HR0.out yb
  go_wp2
  go_roundg k1
  case measure=>have:=HK1.out;omega
  case rel=>exact⟨(wrap64 (yb+1)),(pF),H',⟨pO1 HK1⟩,pW⟩
 rw[iN c3] at H
 have zc:=dF c3
 clear c3
 have H':=aM H
 clear H
 go_wp2
 go_loopg [4,22] k1 (fun kq v4 v22 w'=>∃ (yd:Int) (ya:Int),v4=.int .i64 yd∧v22=.int .i64 ya∧Aside0 (fag.l1 kq l0 yd (l0.length:Int) ya=some r)∧Aside0 (kq≤k1)∧Drawn0 w w')
 case atStart=>exact⟨(1),(0),(pF),(pF),H',⟨Nat.le_refl _⟩,pW⟩
 clear H'
 try clear zc
 obtain⟨yd,ya,rfl,rfl,HA,HK2,⟨m2,rfl⟩⟩:=hrel
 cases gk with
 | zero=>exact absurd HA.out (by simp[fag.l1])
 | succ k2=>?_
 have H:=HA.out
 clear HA
 simp only[fag.l1] at H
 by_cases c7:ya<(l0.length:Int)
 rotate_left
 ·rw[iN c7] at H
  have ys:=dF c7
  clear c7
  obtain rfl:=Option.some.inj H
  go_wp2
  go_ret
  exact⟨pF,pW⟩
 rw[ip c7] at H
 have ys:=dT c7
 clear c7
 by_cases c8:0≤ya
 rotate_left
 ·rw[iN c8] at H
  cases H
 rw[ip c8] at H
 have c8b0:=dT c8
 clear c8
 by_cases c9:ya<(l0.length:Int)
 rotate_left
 ·rw[iN c9] at H
  cases H
 rw[ip c9] at H
 have c9b0:=dT c9
 clear c9
 by_cases c10:(rd l0 ya) > 64
 ·rw[ip c10] at H
  have yk:decide (64<(rd l0 ya))=true:=decide_eq_true c10
  clear c10
  obtain rfl:=Option.some.inj H
  obtain⟨yc,⟨⟩,ye,yl,ym⟩:=zI HR0.out ya
  go_wp2
  go_ret
  exact⟨pF,pW⟩
 rw[iN c10] at H
 have yk:decide (64<(rd l0 ya))=false:=decide_eq_false c10
 clear c10
 by_cases c11:(wrap64 (yd*(rd l0 ya))) > 64
 ·rw[ip c11] at H
  have yn:decide (64<(wrap64 (yd*(rd l0 ya))))=true:=decide_eq_true c11
  clear c11
  obtain rfl:=Option.some.inj H
  obtain⟨yc,⟨⟩,ye,yl,ym⟩:=zI HR0.out ya
  obtain⟨yf,yi,yh,yt,yu⟩:=zI HR0.out ya
  obtain rfl:yc=yf:=(by injection yi)
  go_wp2
  go_ret
  exact⟨pF,pW⟩
 rw[iN c11] at H
 have yn:decide (64<(wrap64 (yd*(rd l0 ya))))=false:=decide_eq_false c11
 clear c11
 have H':=aM H
 clear H
 obtain⟨yc,⟨⟩,ye,yl,ym⟩:=zI HR0.out ya
 obtain⟨yf,yi,yh,yt,yu⟩:=zI HR0.out ya
 obtain rfl:yc=yf:=(by injection yi)
 obtain⟨yo,yv,hx486_0,p486,q486⟩:=zI HR0.out ya
 obtain rfl:yc=yo:=(by injection yv)
 go_wp2
 go_roundg k2
 case measure=>have:=HK1.out;have:=HK2.out;omega
 case rel=>exact⟨(wrap64 (yd*(rd l0 ya))),(wrap64 (ya+1)),(pF),(pF),H',⟨pO2 HK1 HK2⟩,pW⟩
end Go.Proofs.Ytcdiobcldhiemaa.Q
