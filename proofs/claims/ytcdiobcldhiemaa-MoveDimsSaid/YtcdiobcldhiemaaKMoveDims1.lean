/- Texts of the proof of MoveDims, part 1: what functions of the program compute, and that they compute it. -/
import Derived.Test.YtcdiobcldhiemaaKMoveDimsW
import Derived.Test.YtcdiobcldhiemaaKMoveDims0
set_option maxHeartbeats 8000000
set_option maxRecDepth 100000
namespace Go.Proofs.Ytcdiobcldhiemaa.Q
open Go.RowKit Go.Proofs.YtcdiobcldhiemaaW.PrintWords Go.Proofs.YtcdiobcldhiemaaW.PrintLast Go.Proofs.YtcdiobcldhiemaaW.PrintMore
attribute [local go_sem] max2_int min2_int max_two min_two max_three min_three max_four min_four   -- for this text's walks alone
set_option linter.unusedVariables false
set_option linter.unusedSimpArgs false
def fch.l0:Nat→Int→Int→Int→List Int→List Int→Option (Bool)
 | 0,_,_,_,_,_=>none
 | k + 1,x3,x4,zf,zb,zd=>if x4 ≥ 0 then(if 0≤x4 then(if x4 < (zb.length:Int)then(if(rd zb x4) > 1 then(if x4 < (zd.length:Int)then(if(rd zd x4)=x3 then(fch.l0 k (wrap64 (x3 * (rd zb x4))) (wrap64 (x4 - 1)) zf zb zd)else(some false))else(none))else(fch.l0 k (wrap64 (x3 * (rd zb x4))) (wrap64 (x4 - 1)) zf zb zd))else(none))else(none))else(some true)
def fch.f (k:Nat) (ye:Int) (ya:List Int) (yd:List Int):Option (Bool):=(fcm.f k ye ya yd).bind fun zh=>(if zh=true then(fch.l0 k 1 (wrap64 ((ya.length:Int) - 1)) ye ya yd)else(some false))
theorem fch.calls (k:Nat) (ye:Int)(yg:Option Addr)(yh:Nat)(ya:List Int)(yi:Option Addr)(yj:Nat)(yd:List Int)(r:Bool)(w:World)(yo:Kd.C (Kd.int .i64) w yg ya.length ya)(yp:ya.length≤yh)(yq:Kd.C (Kd.int .i64) w yi yd.length yd)(yr:yd.length≤yj)(h:fch.f k ye ya yd=some r) :
  Calls Try.prog 70 #[.agg #[.int .i64 ye,.slice yg ya.length yh,.slice yi yd.length yj]] w fun e w'=>e=.returned (.bool r)∧Below w.heap.size w w':=by
 have hu44:=Try.underlying44
 have ze:=aM yo
 have zj:=aM yp
 clear yo yp
 have zg:=aM yq
 have zk:=aM yr
 clear yq yr
 have HB:=aM (Below.refl w.heap.size w)
 have H:((fcm.f k ye ya yd).bind fun zh=>(if zh=true then(fch.l0 k 1 (wrap64 ((ya.length:Int) - 1)) ye ya yd)else(some false)))=some r:=h
 clear h
 replace H:=oB H
 obtain⟨zh,A20,H⟩:=H
 try dsimp only at H
 have A2:=aM A20
 clear A20
 by_cases c3:zh=true
 rotate_left
 ·replace c3:=Bool.eq_false_iff.mpr c3
  subst c3
  rw [iN (show ¬ (false=true) by decide)] at H
  obtain rfl:=Option.some.inj H
  go_enter Try.func70,Try.ntmps70
  go_wp2_with (first|((with_reducible refine gD 1 rfl ?_);refine bX 1 44 #[.int .i64 ye,.slice yg ya.length yh,.slice yi yd.length yj] ?_;intro zl hg w17 hbox hb;have za:=aM (hbox);have zi:=gE (w:=w) hg (qB HB);have zc:=zi;replace HB:=bS (qB HB) hb;clear hb hbox hg;have hcz18:=blk3 za.out)|((with_reducible refine gC 49 rfl ?_);refine gL 6 Try.func49 #[.agg #[.int .i64 ye,.slice yg ya.length yh,.slice yi yd.length yj]] ?_;(with_reducible refine(fcm.calls k ye _ _ ya _ _ yd false _ ?s1 zj.out ?s3 zk.out A2.out).mono ?_);(case s1=>exact sC ze HB);(case s3=>exact sC zg HB);rintro e w19 ⟨rfl,hb⟩;refine⟨_,rfl,?_⟩;replace za:=bK za hb;replace HB:=bS (qB1 HB zc) hb;(try clear hb);(try clear hk);(try clear hi)))
  go_ret
  exact⟨pE,qB1 HB zc⟩
 subst c3
 rw [ip rfl] at H
 have H':=aM H
 clear H
 go_enter Try.func70,Try.ntmps70
 go_wp2_with (first|((with_reducible refine gD 1 rfl ?_);refine bX 1 44 #[.int .i64 ye,.slice yg ya.length yh,.slice yi yd.length yj] ?_;intro zl hg w4 hbox hb;have za:=aM (hbox);have zi:=gE (w:=w) hg (qB HB);have zc:=zi;replace HB:=bS (qB HB) hb;clear hb hbox hg;have hcz5:=blk3 za.out)|((with_reducible refine gC 49 rfl ?_);refine gL 6 Try.func49 #[.agg #[.int .i64 ye,.slice yg ya.length yh,.slice yi yd.length yj]] ?_;(with_reducible refine(fcm.calls k ye _ _ ya _ _ yd true _ ?s1 zj.out ?s3 zk.out A2.out).mono ?_);(case s1=>exact sC ze HB);(case s3=>exact sC zg HB);rintro e w6 ⟨rfl,hb⟩;refine⟨_,rfl,?_⟩;replace za:=bK za hb;replace HB:=bS (qB1 HB zc) hb;(try clear hb);(try clear hk);(try clear hi);have hcz7:=blk3 za.out))
 go_loopg [3,4] k (fun kq v3 v4 w'=>∃ (yn:Int) (yb:Int),v3=.int .i64 yn∧v4=.int .i64 yb∧Aside0 (fch.l0 kq yn yb ye ya yd=some r)∧Aside0 (kq≤k)∧Aside0 (w'.heap[zl]?=some (.cells #[.int .i64 ye,(.slice yg ya.length yh),(.slice yi yd.length yj)] 44 (0,0)))∧Aside0 (Below w.heap.size w w'))
 case atStart=>exact⟨(1),(wrap64 ((ya.length:Int) - 1)),(pF),(pF),H',⟨Nat.le_refl _⟩,⟨pK za.out⟩,⟨qB1 HB zc⟩⟩
 clear H'
 try clear c3
 try clear hcz5 hcz7
 obtain⟨yn,yb,rfl,rfl,HA,HK1,za,HB⟩:=hrel
 cases gk with
 | zero=>exact absurd HA.out (by simp [fch.l0])
 | succ k1=>?_
 have H:=HA.out
 clear HA
 simp only [fch.l0] at H
 by_cases c8:yb ≥ 0
 rotate_left
 ·rw [iN c8] at H
  have y0:decide (0≤yb)=false:=decide_eq_false c8
  clear c8
  obtain rfl:=Option.some.inj H
  go_wp2
  go_ret
  exact⟨pE,qB1 HB zc⟩
 rw [ip c8] at H
 have y0:decide (0≤yb)=true:=decide_eq_true c8
 clear c8
 by_cases c9:0≤yb
 rotate_left
 ·rw [iN c9] at H
  cases H
 rw [ip c9] at H
 have c9b0:=dT c9
 clear c9
 by_cases c10:yb < (ya.length:Int)
 rotate_left
 ·rw [iN c10] at H
  cases H
 rw [ip c10] at H
 have c10b0:=dT c10
 clear c10
 by_cases c11:(rd ya yb) > 1
 rotate_left
 ·rw [iN c11] at H
  have ys:decide (1 < (rd ya yb))=false:=decide_eq_false c11
  clear c11
  have H':=aM H
  clear H
  have hcz16:=blk3 za.out
  obtain⟨yk,⟨⟩,yc,yt,yu⟩:=zI ze.out yb
  replace yc:=zW HB yc
  obtain⟨yv,y1,yl,p124,q124⟩:=zI ze.out yb
  obtain rfl:yk=yv:=(by injection y1)
  replace yl:=zW HB yl
  go_wp2
  go_roundg k1
  case measure=>have:=HK1.out;omega
  case rel=>exact⟨(wrap64 (yn * (rd ya yb))),(wrap64 (yb - 1)),(pF),(pF),H',⟨pO1 HK1⟩,⟨pK za.out⟩,⟨qB1 HB zc⟩⟩
 rw [ip c11] at H
 have ys:decide (1 < (rd ya yb))=true:=decide_eq_true c11
 clear c11
 by_cases c12:yb < (yd.length:Int)
 rotate_left
 ·rw [iN c12] at H
  cases H
 rw [ip c12] at H
 have c12b0:=dT c12
 clear c12
 by_cases c13:(rd yd yb)=yn
 rotate_left
 ·rw [iN c13] at H
  have yw:=bF c13
  have yx:=nT c13
  obtain rfl:=Option.some.inj H
  have hcz15:=blk3 za.out
  obtain⟨yk,⟨⟩,yc,yt,yu⟩:=zI ze.out yb
  replace yc:=zW HB yc
  obtain⟨yy,⟨⟩,yf,y2,y3⟩:=zI zg.out yb
  replace yf:=zW HB yf
  go_wp2
  go_ret
  exact⟨pE,qB1 HB zc⟩
 rw [ip c13] at H
 have yw:=bT c13
 have yx:=nF c13
 clear c13
 have H':=aM H
 clear H
 have hcz14:=blk3 za.out
 obtain⟨yk,⟨⟩,yc,yt,yu⟩:=zI ze.out yb
 replace yc:=zW HB yc
 obtain⟨yy,⟨⟩,yf,y2,y3⟩:=zI zg.out yb
 replace yf:=zW HB yf
 obtain⟨yz,y4,ym,p123,q123⟩:=zI ze.out yb
 obtain rfl:yk=yz:=(by injection y4)
 replace ym:=zW HB ym
 go_wp2
 go_roundg k1
 case measure=>have:=HK1.out;omega
 case rel=>exact⟨(wrap64 (yn * (rd ya yb))),(wrap64 (yb - 1)),(pF),(pF),H',⟨pO1 HK1⟩,⟨pK za.out⟩,⟨qB1 HB zc⟩⟩
def fcf.f (k:Nat) (yb:Int) (ya:List Int) (yc:List Int) (l1:List Int):Option (Int×List Int×List Int×Int):=(fcm.f k yb ya yc).bind fun zu=>(if zu=true then((fbq.f l1).bind fun zk=>(if zk=0 then((fbr.f k l1).bind fun zn=>((fbr.f k ya).bind fun zo=>(if zn=zo then((fch.f k yb ya yc).bind fun zv=>(if zv=true then((fbw.f l1).bind fun zs=>((fbu.f k l1).bind fun zt=>(some (yb,zs,zt,0))))else(some (0,([]:List Int),([]:List Int),19))))else(some (0,([]:List Int),([]:List Int),8)))))else(some (0,([]:List Int),([]:List Int),zk))))else(some (0,([]:List Int),([]:List Int),1)))
def fcf.T10:TT:=(true,[([],[]),([0],[0]),([],[]),([2],[2]),([],[]),([4,3],[4]),([1,3,5],[1,3,5]),([6,5,0,1,2,3,4,5,6],[6]),([7,0,1,2,3,4,5,6,7],[])])
def fcf.B10:List Nat:=[0,1,0,4,0,28,63,127,255]
theorem fcf.tab10:rtab .any (opsOf Try.f43 10)=fcf.T10:=by kernel_rfl
theorem fcf.bits10:waitsOk fcf.T10.2 fcf.B10=true:=by kernel_rfl
theorem fcf.calls (k:Nat) (yb:Int)(yd:Option Addr)(ye:Nat)(ya:List Int)(yf:Option Addr)(yg:Nat)(yc:List Int)(A1:Option Addr)(c1:Nat)(l1:List Int) (r1:Int)(r2:List Int)(r3:List Int) (r4:Int)(w:World)(yh:Kd.C (Kd.int .i64) w yd ya.length ya)(yi:ya.length≤ye)(yj:Kd.C (Kd.int .i64) w yf yc.length yc)(yk:yc.length≤yg)(hr1:Kd.C (Kd.int .i64) w A1 l1.length l1)(hc1:l1.length≤c1)(h:fcf.f k yb ya yc l1=some (r1,r2,r3,r4)) :
  Calls Try.prog 43 #[.agg #[.int .i64 yb,.slice yd ya.length ye,.slice yf yc.length yg],.slice A1 l1.length c1] w fun e w'=>∃ v1_ v2_:Value,e=.returned (.tuple #[.agg #[.int .i64 r1,v1_,v2_],.int .i64 r4])∧Kd.R (Kd.int .i64) 3 w' w.heap.size (fun k_=>some k_≠(v2_:Value).ownBlock) v1_ r2∧Kd.R (Kd.int .i64) 3 w' w.heap.size (fun k_=>some k_≠(v1_:Value).ownBlock) v2_ r3∧Below w.heap.size w w':=by
 have hu44:=Try.underlying44
 have zi:=aM yh
 have zj:=aM yi
 clear yh yi
 have zp:=aM yj
 have zq:=aM yk
 clear yj yk
 have HR1:=aM hr1
 have HC1:=aM hc1
 clear hr1 hc1
 have HB:=aM (Below.refl w.heap.size w)
 have H:((fcm.f k yb ya yc).bind fun zu=>(if zu=true then((fbq.f l1).bind fun zk=>(if zk=0 then((fbr.f k l1).bind fun zn=>((fbr.f k ya).bind fun zo=>(if zn=zo then((fch.f k yb ya yc).bind fun zv=>(if zv=true then((fbw.f l1).bind fun zs=>((fbu.f k l1).bind fun zt=>(some (yb,zs,zt,0))))else(some (0,([]:List Int),([]:List Int),19))))else(some (0,([]:List Int),([]:List Int),8)))))else(some (0,([]:List Int),([]:List Int),zk))))else(some (0,([]:List Int),([]:List Int),1))))=some (r1,r2,r3,r4):=h
 clear h
 replace H:=oB H
 obtain⟨zu,A30,H⟩:=H
 try dsimp only at H
 have A3:=aM A30
 clear A30
 by_cases c4:zu=true
 rotate_left
 ·replace c4:=Bool.eq_false_iff.mpr c4
  subst c4
  rw [iN (show ¬ (false=true) by decide)] at H
  replace H:=oi4 H
  obtain⟨rfl,rfl,rfl,rfl⟩:=H
  go_enter Try.func43,Try.ntmps43
  go_wp2_with (first|((with_reducible refine gD 2 rfl ?_);refine bX 2 44 #[.int .i64 yb,.slice yd ya.length ye,.slice yf yc.length yg] ?_;intro zh hg w52 hbox hb;have za:=aM (hbox);have zl:=gE (w:=w) hg (qB HB);have zd:=zl;replace HB:=bS (qB HB) hb;clear hb hbox hg)|((with_reducible refine gD 4 rfl ?_);refine bX 4 44 #[.int .i64 0,.slice none 0 0,.slice none 0 0] ?_;intro zg hg w53 hbox hb;have zb:=aM (hbox);have zm:=gE (w:=w) hg (qB1 HB zd);have ze:=zm;replace HB:=bS (qB1 HB zd) hb;have zc:=nL hg za;have zf:=nG hg za;replace za:=bK za hb;clear hb hbox hg;have hnb54:=zc.out;have hnc54:=zf.out;have hcz55:=blk3 za.out)|((with_reducible refine gC 49 rfl ?_);refine gL 8 Try.func49 #[.agg #[.int .i64 yb,.slice yd ya.length ye,.slice yf yc.length yg]] ?_;(with_reducible refine(fcm.calls k yb _ _ ya _ _ yc false _ ?s1 zj.out ?s3 zq.out A3.out).mono ?_);(case s1=>exact sC zi HB);(case s3=>exact sC zp HB);rintro e w56 ⟨rfl,hb⟩;refine⟨_,rfl,?_⟩;replace za:=bK za hb;replace zb:=bK zb hb;replace HB:=bS (qB2 HB zd ze) hb;(try clear hb);(try clear hk);(try clear hi);have hcz57:=blk3 zb.out))
  refine bodyPost_ret (results_ct rfl _ _ zg 44 #[.int .i64 0,.slice none 0 0,.slice none 0 0] (0,0) _ rfl (by exact P3 zb) Try.underlying44 rfl (by kernel_rfl)) rfl ?_
  exact⟨_,_,pE,pN,pN,qB2 HB zd ze⟩
 subst c4
 rw [ip rfl] at H
 replace H:=oB H
 obtain⟨zk,A50,H⟩:=H
 try dsimp only at H
 have A5:=aM A50
 clear A50
 by_cases c6:zk=0
 rotate_left
 ·rw [iN c6] at H
  have yl:=bF c6
  have ym:=nT c6
  replace H:=oi4 H
  obtain⟨rfl,rfl,rfl,rfl⟩:=H
  go_enter Try.func43,Try.ntmps43
  go_wp2_with (first|((with_reducible refine gD 2 rfl ?_);refine bX 2 44 #[.int .i64 yb,.slice yd ya.length ye,.slice yf yc.length yg] ?_;intro zh hg w46 hbox hb;have za:=aM (hbox);have zl:=gE (w:=w) hg (qB HB);have zd:=zl;replace HB:=bS (qB HB) hb;clear hb hbox hg)|((with_reducible refine gD 4 rfl ?_);refine bX 4 44 #[.int .i64 0,.slice none 0 0,.slice none 0 0] ?_;intro zg hg w47 hbox hb;have zb:=aM (hbox);have zm:=gE (w:=w) hg (qB1 HB zd);have ze:=zm;replace HB:=bS (qB1 HB zd) hb;have zc:=nL hg za;have zf:=nG hg za;replace za:=bK za hb;clear hb hbox hg;have hnb48:=zc.out;have hnc48:=zf.out;have hcz49:=blk3 za.out)|((with_reducible refine gC 49 rfl ?_);refine gL 8 Try.func49 #[.agg #[.int .i64 yb,.slice yd ya.length ye,.slice yf yc.length yg]] ?_;(with_reducible refine(fcm.calls k yb _ _ ya _ _ yc true _ ?s1 zj.out ?s3 zq.out A3.out).mono ?_);(case s1=>exact sC zi HB);(case s3=>exact sC zp HB);rintro e w50 ⟨rfl,hb⟩;refine⟨_,rfl,?_⟩;replace za:=bK za hb;replace zb:=bK zb hb;replace HB:=bS (qB2 HB zd ze) hb;(try clear hb);(try clear hk);(try clear hi))|((with_reducible refine gC 31 rfl ?_);refine gL 12 Try.func31 #[.slice A1 l1.length c1] ?_;(with_reducible refine(fbq.calls _ _ l1 zk _ ?s1 HC1.out A5.out).mono ?_);(case s1=>exact sC HR1 HB);rintro e w' ⟨rfl,⟨nd,rfl⟩⟩;refine⟨_,rfl,?_⟩;(try (rw [drewN_self w50];generalize hq_:World.drewN w50 _=w50;have n0_:Aside0 (w50.heap[zh]?=some (.cells #[.int .i64 yb,.slice yd ya.length ye,.slice yf yc.length yg] 44 (0,0))):=⟨by rw [← hq_];exact(pK za.out)⟩;have n1_:Aside0 (w50.heap[zg]?=some (.cells #[.int .i64 0,.slice none 0 0,.slice none 0 0] 44 (0,0))):=⟨by rw [← hq_];exact(pK zb.out)⟩;have n2_:Aside0 (Below w.heap.size w w50):=⟨by rw [← hq_];exact(qB2 HB zd ze)⟩;clear za zb HB hq_;have za:=n0_;have zb:=n1_;have HB:=n2_;clear n0_ n1_ n2_));have hcz51:=blk3 zb.out))
  refine bodyPost_ret (results_ct rfl _ _ zg 44 #[.int .i64 0,.slice none 0 0,.slice none 0 0] (0,0) _ rfl (by exact P3 zb) Try.underlying44 rfl (by kernel_rfl)) rfl ?_
  exact⟨_,_,pE,pN,pN,qB2 HB zd ze⟩
 rw [ip c6] at H
 have yl:=bT c6
 have ym:=nF c6
 clear c6
 replace H:=oB H
 obtain⟨zn,A70,H⟩:=H
 try dsimp only at H
 have A7:=aM A70
 clear A70
 replace H:=oB H
 obtain⟨zo,A80,H⟩:=H
 try dsimp only at H
 have A8:=aM A80
 clear A80
 by_cases c9:zn=zo
 rotate_left
 ·rw [iN c9] at H
  have yn:=bF c9
  have yo:=nT c9
  replace H:=oi4 H
  obtain⟨rfl,rfl,rfl,rfl⟩:=H
  go_enter Try.func43,Try.ntmps43
  try go_wp2_with (first|((with_reducible refine gD 2 rfl ?_);refine bX 2 44 #[.int .i64 yb,.slice yd ya.length ye,.slice yf yc.length yg] ?_;intro zh hg w39 hbox hb;have za:=aM (hbox);have zl:=gE (w:=w) hg (qB HB);have zd:=zl;replace HB:=bS (qB HB) hb;clear hb hbox hg)|((with_reducible refine gD 4 rfl ?_);refine bX 4 44 #[.int .i64 0,.slice none 0 0,.slice none 0 0] ?_;intro zg hg w40 hbox hb;have zb:=aM (hbox);have zm:=gE (w:=w) hg (qB1 HB zd);have ze:=zm;replace HB:=bS (qB1 HB zd) hb;have zc:=nL hg za;have zf:=nG hg za;replace za:=bK za hb;clear hb hbox hg;have hnb41:=zc.out;have hnc41:=zf.out;have hcz42:=blk3 za.out)|((with_reducible refine gC 49 rfl ?_);refine gL 8 Try.func49 #[.agg #[.int .i64 yb,.slice yd ya.length ye,.slice yf yc.length yg]] ?_;(with_reducible refine(fcm.calls k yb _ _ ya _ _ yc true _ ?s1 zj.out ?s3 zq.out A3.out).mono ?_);(case s1=>exact sC zi HB);(case s3=>exact sC zp HB);rintro e w43 ⟨rfl,hb⟩;refine⟨_,rfl,?_⟩;replace za:=bK za hb;replace zb:=bK zb hb;replace HB:=bS (qB2 HB zd ze) hb;(try clear hb);(try clear hk);(try clear hi))|((with_reducible refine gC 31 rfl ?_);refine gL 12 Try.func31 #[.slice A1 l1.length c1] ?_;(with_reducible refine(fbq.calls _ _ l1 zk _ ?s1 HC1.out A5.out).mono ?_);(case s1=>exact sC HR1 HB);rintro e w' ⟨rfl,⟨nd,rfl⟩⟩;refine⟨_,rfl,?_⟩;(try (rw [drewN_self w43];generalize hq_:World.drewN w43 _=w43;have n0_:Aside0 (w43.heap[zh]?=some (.cells #[.int .i64 yb,.slice yd ya.length ye,.slice yf yc.length yg] 44 (0,0))):=⟨by rw [← hq_];exact(pK za.out)⟩;have n1_:Aside0 (w43.heap[zg]?=some (.cells #[.int .i64 0,.slice none 0 0,.slice none 0 0] 44 (0,0))):=⟨by rw [← hq_];exact(pK zb.out)⟩;have n2_:Aside0 (Below w.heap.size w w43):=⟨by rw [← hq_];exact(qB2 HB zd ze)⟩;clear za zb HB hq_;have za:=n0_;have zb:=n1_;have HB:=n2_;clear n0_ n1_ n2_))))
  replace za:=aM (blk_drew za.out)
  replace zb:=aM (blk_drew zb.out)
  replace HB:=aM (below_drew1 HB.out)
  refine start_ (n:=6) (S:=fun w'=>w'.cell? ⟨zh,0,none⟩=some (.int .i64 yb)∧w'.cell? ⟨zh,1,none⟩=some (.slice yd ya.length ye)∧w'.cell? ⟨zh,2,none⟩=some (.slice yf yc.length yg)) (ds:=[]) (bm 6 0) (by kernel_rfl) rfl rfl (h3 za) (fun hHeld=>?_)
  generalize w43.drew=w44 at za zb HB hHeld ⊢
  refine pure_ (i:=0) (N:=some 17) (v:=?_) (a':=?_) (bm 6 1) rfl rfl (by kernel_rfl) (fun _ _ _ h=>h) (Or.inl ⟨by rfl,?_⟩) ?_ ?_
  rotate_left
  ·intro w'
   go_simp
   with_reducible rfl
  rotate_left
  ·simp only [Act.put,sP,i64_w,i32_w]
   rfl
  refine pure_ (i:=2) (N:=some 19) (v:=?_) (a':=?_) (bm 6 5) rfl rfl (by kernel_rfl) (fun _ _ _ h=>h) (Or.inl ⟨by rfl,?_⟩) ?_ ?_
  rotate_left
  ·intro w'
   go_simp
   with_reducible rfl
  rotate_left
  ·simp only [Act.put,sP,i64_w,i32_w]
   rfl
  refine take_ (i:=3) (N:=some 20) (v:=?_) (a':=?_) (bm 6 13) rfl rfl (by kernel_rfl) (fun _ _ _ h=>h) (Or.inl ⟨by rfl,?_⟩) hHeld ?_ ?_
  rotate_left
  ·rintro w' ⟨s0,s1,s2⟩
   go_simp
   with_reducible rfl
  rotate_left
  ·simp only [Act.put,sP,i64_w,i32_w]
   rfl
  refine one_ (i:=1) (N:=some 18) (bm 6 15) rfl rfl (by kernel_rfl) (by decide) (fun K hK=>?_)
  refine gS Try.func67 #[.slice A1 l1.length c1] ?_
  with_reducible refine(fbr.calls k _ _ l1 zn _ ?s1 HC1.out A7.out).mono ?_
  (case s1=>exact sC HR1 HB)
  rintro e w' ⟨rfl,⟨nd,rfl⟩⟩
  refine⟨_,rfl,?_⟩
  refine hK.out _ _ (h3 za) (fun hHeld=>?_)
  clear hK K
  refine norm_ (a':=?_) ?_ ?_
  rotate_left
  ·show Act.put _ (some 18) _=_
   simp only [Act.put,sP,i64_w,i32_w]
   rfl
  refine one_ (i:=4) (N:=some 21) (bm 6 31) rfl rfl (by kernel_rfl) (by decide) (fun K hK=>?_)
  refine gS Try.func67 #[.slice yd ya.length ye] ?_
  with_reducible refine(fbr.calls k _ _ ya zo _ ?s1 zj.out A8.out).mono ?_
  (case s1=>exact pC (Kd.C_below zi.out (qB2 HB zd ze)))
  rintro e w' ⟨rfl,⟨nd,rfl⟩⟩
  refine⟨_,rfl,?_⟩
  refine hK.out _ _ (h3 za) (fun hHeld=>?_)
  clear hK K
  refine norm_ (a':=?_) ?_ ?_
  rotate_left
  ·show Act.put _ (some 21) _=_
   simp only [Act.put,sP,i64_w,i32_w]
   rfl
  refine pure_ (i:=5) (N:=some 22) (v:=?_) (a':=?_) (bm 6 63) rfl rfl (by kernel_rfl) (fun _ _ _ h=>h) (Or.inl ⟨by rfl,?_⟩) ?_ ?_
  rotate_left
  ·intro w'
   go_simp
   with_reducible rfl
  rotate_left
  ·simp only [Act.put,sP,i64_w,i32_w]
   rfl
  refine done_ (by kernel_rfl) ?_
  have hcz45:=blk3 zb.out
  try go_wp2
  refine bodyPost_ret (results_ct rfl _ _ zg 44 #[.int .i64 0,.slice none 0 0,.slice none 0 0] (0,0) _ rfl (by exact P3 zb) Try.underlying44 rfl (by kernel_rfl)) rfl ?_
  exact⟨_,_,pE,pN,pN,qB2 HB zd ze⟩
 rw [ip c9] at H
 have yn:=bT c9
 have yo:=nF c9
 clear c9
 replace H:=oB H
 obtain⟨zv,zx,H⟩:=H
 try dsimp only at H
 have A10:=aM zx
 clear zx
 by_cases c11:zv=true
 rotate_left
 ·replace c11:=Bool.eq_false_iff.mpr c11
  subst c11
  rw [iN (show ¬ (false=true) by decide)] at H
  replace H:=oi4 H
  obtain⟨rfl,rfl,rfl,rfl⟩:=H
  go_enter Try.func43,Try.ntmps43
  try go_wp2_with (first|((with_reducible refine gD 2 rfl ?_);refine bX 2 44 #[.int .i64 yb,.slice yd ya.length ye,.slice yf yc.length yg] ?_;intro zh hg w30 hbox hb;have za:=aM (hbox);have zl:=gE (w:=w) hg (qB HB);have zd:=zl;replace HB:=bS (qB HB) hb;clear hb hbox hg)|((with_reducible refine gD 4 rfl ?_);refine bX 4 44 #[.int .i64 0,.slice none 0 0,.slice none 0 0] ?_;intro zg hg w31 hbox hb;have zb:=aM (hbox);have zm:=gE (w:=w) hg (qB1 HB zd);have ze:=zm;replace HB:=bS (qB1 HB zd) hb;have zc:=nL hg za;have zf:=nG hg za;replace za:=bK za hb;clear hb hbox hg;have hnb32:=zc.out;have hnc32:=zf.out;have hcz33:=blk3 za.out)|((with_reducible refine gC 49 rfl ?_);refine gL 8 Try.func49 #[.agg #[.int .i64 yb,.slice yd ya.length ye,.slice yf yc.length yg]] ?_;(with_reducible refine(fcm.calls k yb _ _ ya _ _ yc true _ ?s1 zj.out ?s3 zq.out A3.out).mono ?_);(case s1=>exact sC zi HB);(case s3=>exact sC zp HB);rintro e w34 ⟨rfl,hb⟩;refine⟨_,rfl,?_⟩;replace za:=bK za hb;replace zb:=bK zb hb;replace HB:=bS (qB2 HB zd ze) hb;(try clear hb);(try clear hk);(try clear hi))|((with_reducible refine gC 31 rfl ?_);refine gL 12 Try.func31 #[.slice A1 l1.length c1] ?_;(with_reducible refine(fbq.calls _ _ l1 zk _ ?s1 HC1.out A5.out).mono ?_);(case s1=>exact sC HR1 HB);rintro e w' ⟨rfl,⟨nd,rfl⟩⟩;refine⟨_,rfl,?_⟩;(try (rw [drewN_self w34];generalize hq_:World.drewN w34 _=w34;have n0_:Aside0 (w34.heap[zh]?=some (.cells #[.int .i64 yb,.slice yd ya.length ye,.slice yf yc.length yg] 44 (0,0))):=⟨by rw [← hq_];exact(pK za.out)⟩;have n1_:Aside0 (w34.heap[zg]?=some (.cells #[.int .i64 0,.slice none 0 0,.slice none 0 0] 44 (0,0))):=⟨by rw [← hq_];exact(pK zb.out)⟩;have n2_:Aside0 (Below w.heap.size w w34):=⟨by rw [← hq_];exact(qB2 HB zd ze)⟩;clear za zb HB hq_;have za:=n0_;have zb:=n1_;have HB:=n2_;clear n0_ n1_ n2_))))
  replace za:=aM (blk_drew za.out)
  replace zb:=aM (blk_drew zb.out)
  replace HB:=aM (below_drew1 HB.out)
  refine start_ (n:=6) (S:=fun w'=>w'.cell? ⟨zh,0,none⟩=some (.int .i64 yb)∧w'.cell? ⟨zh,1,none⟩=some (.slice yd ya.length ye)∧w'.cell? ⟨zh,2,none⟩=some (.slice yf yc.length yg)) (ds:=[]) (bm 6 0) (by kernel_rfl) rfl rfl (h3 za) (fun hHeld=>?_)
  generalize w34.drew=w35 at za zb HB hHeld ⊢
  refine pure_ (i:=0) (N:=some 17) (v:=?_) (a':=?_) (bm 6 1) rfl rfl (by kernel_rfl) (fun _ _ _ h=>h) (Or.inl ⟨by rfl,?_⟩) ?_ ?_
  rotate_left
  ·intro w'
   go_simp
   with_reducible rfl
  rotate_left
  ·simp only [Act.put,sP,i64_w,i32_w]
   rfl
  refine pure_ (i:=2) (N:=some 19) (v:=?_) (a':=?_) (bm 6 5) rfl rfl (by kernel_rfl) (fun _ _ _ h=>h) (Or.inl ⟨by rfl,?_⟩) ?_ ?_
  rotate_left
  ·intro w'
   go_simp
   with_reducible rfl
  rotate_left
  ·simp only [Act.put,sP,i64_w,i32_w]
   rfl
  refine take_ (i:=3) (N:=some 20) (v:=?_) (a':=?_) (bm 6 13) rfl rfl (by kernel_rfl) (fun _ _ _ h=>h) (Or.inl ⟨by rfl,?_⟩) hHeld ?_ ?_
  rotate_left
  ·rintro w' ⟨s0,s1,s2⟩
   go_simp
   with_reducible rfl
  rotate_left
  ·simp only [Act.put,sP,i64_w,i32_w]
   rfl
  refine one_ (i:=1) (N:=some 18) (bm 6 15) rfl rfl (by kernel_rfl) (by decide) (fun K hK=>?_)
  refine gS Try.func67 #[.slice A1 l1.length c1] ?_
  with_reducible refine(fbr.calls k _ _ l1 zn _ ?s1 HC1.out A7.out).mono ?_
  (case s1=>exact sC HR1 HB)
  rintro e w' ⟨rfl,⟨nd,rfl⟩⟩
  refine⟨_,rfl,?_⟩
  refine hK.out _ _ (h3 za) (fun hHeld=>?_)
  clear hK K
  refine norm_ (a':=?_) ?_ ?_
  rotate_left
  ·show Act.put _ (some 18) _=_
   simp only [Act.put,sP,i64_w,i32_w]
   rfl
  refine one_ (i:=4) (N:=some 21) (bm 6 31) rfl rfl (by kernel_rfl) (by decide) (fun K hK=>?_)
  refine gS Try.func67 #[.slice yd ya.length ye] ?_
  with_reducible refine(fbr.calls k _ _ ya zo _ ?s1 zj.out A8.out).mono ?_
  (case s1=>exact pC (Kd.C_below zi.out (qB2 HB zd ze)))
  rintro e w' ⟨rfl,⟨nd,rfl⟩⟩
  refine⟨_,rfl,?_⟩
  refine hK.out _ _ (h3 za) (fun hHeld=>?_)
  clear hK K
  refine norm_ (a':=?_) ?_ ?_
  rotate_left
  ·show Act.put _ (some 21) _=_
   simp only [Act.put,sP,i64_w,i32_w]
   rfl
  refine pure_ (i:=5) (N:=some 22) (v:=?_) (a':=?_) (bm 6 63) rfl rfl (by kernel_rfl) (fun _ _ _ h=>h) (Or.inl ⟨by rfl,?_⟩) ?_ ?_
  rotate_left
  ·intro w'
   go_simp
   with_reducible rfl
  rotate_left
  ·simp only [Act.put,sP,i64_w,i32_w]
   rfl
  refine done_ (by kernel_rfl) ?_
  have hcz36:=blk3 za.out
  try go_wp2_with (first|((with_reducible refine gC 70 rfl ?_);refine gL 25 Try.func70 #[.agg #[.int .i64 yb,.slice yd ya.length ye,.slice yf yc.length yg]] ?_;(with_reducible refine(fch.calls k yb _ _ ya _ _ yc false _ ?s1 zj.out ?s3 zq.out A10.out).mono ?_);(case s1=>exact pC (Kd.C_below zi.out (qB2 HB zd ze)));(case s3=>exact pC (Kd.C_below zp.out (qB2 HB zd ze)));rintro e w37 ⟨rfl,hb⟩;refine⟨_,rfl,?_⟩;replace za:=bK za hb;replace zb:=bK zb hb;replace HB:=bS (qB2 HB zd ze) hb;(try clear hb);(try clear hk);(try clear hi);have hcz38:=blk3 zb.out))
  refine bodyPost_ret (results_ct rfl _ _ zg 44 #[.int .i64 0,.slice none 0 0,.slice none 0 0] (0,0) _ rfl (by exact P3 zb) Try.underlying44 rfl (by kernel_rfl)) rfl ?_
  exact⟨_,_,pE,pN,pN,qB2 HB zd ze⟩
 subst c11
 rw [ip rfl] at H
 replace H:=oB H
 obtain⟨zs,zy,H⟩:=H
 try dsimp only at H
 have A12:=aM zy
 clear zy
 replace H:=oB H
 obtain⟨zt,zz,H⟩:=H
 try dsimp only at H
 have A13:=aM zz
 clear zz
 replace H:=oi4 H
 obtain⟨rfl,rfl,rfl,rfl⟩:=H
 go_enter Try.func43,Try.ntmps43
 try go_wp2_with (first|((with_reducible refine gD 2 rfl ?_);refine bX 2 44 #[.int .i64 yb,.slice yd ya.length ye,.slice yf yc.length yg] ?_;intro zh hg w14 hbox hb;have za:=aM (hbox);have zl:=gE (w:=w) hg (qB HB);have zd:=zl;replace HB:=bS (qB HB) hb;clear hb hbox hg)|((with_reducible refine gD 4 rfl ?_);refine bX 4 44 #[.int .i64 0,.slice none 0 0,.slice none 0 0] ?_;intro zg hg w15 hbox hb;have zb:=aM (hbox);have zm:=gE (w:=w) hg (qB1 HB zd);have ze:=zm;replace HB:=bS (qB1 HB zd) hb;have zc:=nL hg za;have zf:=nG hg za;replace za:=bK za hb;clear hb hbox hg;have hnb16:=zc.out;have hnc16:=zf.out;have hcz17:=blk3 za.out)|((with_reducible refine gC 49 rfl ?_);refine gL 8 Try.func49 #[.agg #[.int .i64 yb,.slice yd ya.length ye,.slice yf yc.length yg]] ?_;(with_reducible refine(fcm.calls k yb _ _ ya _ _ yc true _ ?s1 zj.out ?s3 zq.out A3.out).mono ?_);(case s1=>exact sC zi HB);(case s3=>exact sC zp HB);rintro e w18 ⟨rfl,hb⟩;refine⟨_,rfl,?_⟩;replace za:=bK za hb;replace zb:=bK zb hb;replace HB:=bS (qB2 HB zd ze) hb;(try clear hb);(try clear hk);(try clear hi))|((with_reducible refine gC 31 rfl ?_);refine gL 12 Try.func31 #[.slice A1 l1.length c1] ?_;(with_reducible refine(fbq.calls _ _ l1 zk _ ?s1 HC1.out A5.out).mono ?_);(case s1=>exact sC HR1 HB);rintro e w' ⟨rfl,⟨nd,rfl⟩⟩;refine⟨_,rfl,?_⟩;(try (rw [drewN_self w18];generalize hq_:World.drewN w18 _=w18;have n0_:Aside0 (w18.heap[zh]?=some (.cells #[.int .i64 yb,.slice yd ya.length ye,.slice yf yc.length yg] 44 (0,0))):=⟨by rw [← hq_];exact(pK za.out)⟩;have n1_:Aside0 (w18.heap[zg]?=some (.cells #[.int .i64 0,.slice none 0 0,.slice none 0 0] 44 (0,0))):=⟨by rw [← hq_];exact(pK zb.out)⟩;have n2_:Aside0 (Below w.heap.size w w18):=⟨by rw [← hq_];exact(qB2 HB zd ze)⟩;clear za zb HB hq_;have za:=n0_;have zb:=n1_;have HB:=n2_;clear n0_ n1_ n2_))))
 replace za:=aM (blk_drew za.out)
 replace zb:=aM (blk_drew zb.out)
 replace HB:=aM (below_drew1 HB.out)
 refine start_ (n:=6) (S:=fun w'=>w'.cell? ⟨zh,0,none⟩=some (.int .i64 yb)∧w'.cell? ⟨zh,1,none⟩=some (.slice yd ya.length ye)∧w'.cell? ⟨zh,2,none⟩=some (.slice yf yc.length yg)) (ds:=[]) (bm 6 0) (by kernel_rfl) rfl rfl (h3 za) (fun hHeld=>?_)
 generalize w18.drew=w19 at za zb HB hHeld ⊢
 refine pure_ (i:=0) (N:=some 17) (v:=?_) (a':=?_) (bm 6 1) rfl rfl (by kernel_rfl) (fun _ _ _ h=>h) (Or.inl ⟨by rfl,?_⟩) ?_ ?_
 rotate_left
 ·intro w'
  go_simp
  with_reducible rfl
 rotate_left
 ·simp only [Act.put,sP,i64_w,i32_w]
  rfl
 refine pure_ (i:=2) (N:=some 19) (v:=?_) (a':=?_) (bm 6 5) rfl rfl (by kernel_rfl) (fun _ _ _ h=>h) (Or.inl ⟨by rfl,?_⟩) ?_ ?_
 rotate_left
 ·intro w'
  go_simp
  with_reducible rfl
 rotate_left
 ·simp only [Act.put,sP,i64_w,i32_w]
  rfl
 refine take_ (i:=3) (N:=some 20) (v:=?_) (a':=?_) (bm 6 13) rfl rfl (by kernel_rfl) (fun _ _ _ h=>h) (Or.inl ⟨by rfl,?_⟩) hHeld ?_ ?_
 rotate_left
 ·rintro w' ⟨s0,s1,s2⟩
  go_simp
  with_reducible rfl
 rotate_left
 ·simp only [Act.put,sP,i64_w,i32_w]
  rfl
 refine one_ (i:=1) (N:=some 18) (bm 6 15) rfl rfl (by kernel_rfl) (by decide) (fun K hK=>?_)
 refine gS Try.func67 #[.slice A1 l1.length c1] ?_
 with_reducible refine(fbr.calls k _ _ l1 zn _ ?s1 HC1.out A7.out).mono ?_
 (case s1=>exact sC HR1 HB)
 rintro e w' ⟨rfl,⟨nd,rfl⟩⟩
 refine⟨_,rfl,?_⟩
 refine hK.out _ _ (h3 za) (fun hHeld=>?_)
 clear hK K
 refine norm_ (a':=?_) ?_ ?_
 rotate_left
 ·show Act.put _ (some 18) _=_
  simp only [Act.put,sP,i64_w,i32_w]
  rfl
 refine one_ (i:=4) (N:=some 21) (bm 6 31) rfl rfl (by kernel_rfl) (by decide) (fun K hK=>?_)
 refine gS Try.func67 #[.slice yd ya.length ye] ?_
 with_reducible refine(fbr.calls k _ _ ya zo _ ?s1 zj.out A8.out).mono ?_
 (case s1=>exact pC (Kd.C_below zi.out (qB2 HB zd ze)))
 rintro e w' ⟨rfl,⟨nd,rfl⟩⟩
 refine⟨_,rfl,?_⟩
 refine hK.out _ _ (h3 za) (fun hHeld=>?_)
 clear hK K
 refine norm_ (a':=?_) ?_ ?_
 rotate_left
 ·show Act.put _ (some 21) _=_
  simp only [Act.put,sP,i64_w,i32_w]
  rfl
 refine pure_ (i:=5) (N:=some 22) (v:=?_) (a':=?_) (bm 6 63) rfl rfl (by kernel_rfl) (fun _ _ _ h=>h) (Or.inl ⟨by rfl,?_⟩) ?_ ?_
 rotate_left
 ·intro w'
  go_simp
  with_reducible rfl
 rotate_left
 ·simp only [Act.put,sP,i64_w,i32_w]
  rfl
 refine done_ (by kernel_rfl) ?_
 have hcz20:=blk3 za.out
 try go_wp2_with (first|((with_reducible refine gC 70 rfl ?_);refine gL 25 Try.func70 #[.agg #[.int .i64 yb,.slice yd ya.length ye,.slice yf yc.length yg]] ?_;(with_reducible refine(fch.calls k yb _ _ ya _ _ yc true _ ?s1 zj.out ?s3 zq.out A10.out).mono ?_);(case s1=>exact pC (Kd.C_below zi.out (qB2 HB zd ze)));(case s3=>exact pC (Kd.C_below zp.out (qB2 HB zd ze)));rintro e w21 ⟨rfl,hb⟩;refine⟨_,rfl,?_⟩;replace za:=bK za hb;replace zb:=bK zb hb;replace HB:=bS (qB2 HB zd ze) hb;(try clear hb);(try clear hk);(try clear hi)))
 replace za:=aM (blk_drew za.out)
 replace zb:=aM (blk_drew zb.out)
 replace HB:=aM (below_drew1 HB.out)
 refine sT 9 [] (fun w'=>w'.cell? ⟨zh,0,none⟩=some (.int .i64 yb)∧w'.cell? ⟨zh,1,none⟩=some (.slice yd ya.length ye)∧w'.cell? ⟨zh,2,none⟩=some (.slice yf yc.length yg)) fcf.tab10 fcf.bits10 (h3 za) (fun hHeld HT_ HW_=>?_)
 generalize w21.drew=w22 at za zb HB hHeld ⊢
 refine pQ 0 28 9 1 HT_ ?_
 refine pQ 2 30 9 5 HT_ ?_
 refine pQ 4 32 9 21 HT_ ?_
 refine pU3 1 29 9 23 HT_ HW_ hHeld ?_
 refine oN 3 31 9 31 HT_ (fun K hK=>?_)
 refine gS Try.func42 #[.slice A1 l1.length c1] ?_
 with_reducible refine(fbw.calls _ _ l1 zs _ ?s1 HC1.out A12.out).mono ?_
 (case s1=>exact sC HR1 HB)
 rintro e w23 ⟨v133,rfl,ho0,hb⟩
 refine⟨_,rfl,?_⟩
 have zr:=aM (Kd.R_lower ho0 (below_size (qB2 HB zd ze)))
 replace za:=bK za hb
 replace zb:=bK zb hb
 replace HB:=bS (qB2 HB zd ze) hb
 (try clear hb)
 (try clear hk)
 (try clear hi)
 (try clear ho0)
 refine hK.out _ _ (h3 za) (fun hHeld=>?_)
 clear hK K
 refine norm_ (a':=?_) ?_ ?_
 rotate_left
 ·show Act.put _ (some 31) _=_
  simp only [Act.put,sP,i64_w,i32_w]
  rfl
 refine oN 5 33 9 63 HT_ (fun K hK=>?_)
 refine gS Try.func62 #[.slice A1 l1.length c1] ?_
 with_reducible refine(fbu.calls k _ _ l1 zt _ ?s1 HC1.out A13.out).mono ?_
 (case s1=>exact sC HR1 HB)
 rintro e w24 ⟨v136,rfl,ho0,hb⟩
 refine⟨_,rfl,?_⟩
 have zw:=aM (Kd.R_lower (Kd.R_new' ho0 (Kd.R_lt (pR zr.out))) (below_size (qB2 HB zd ze)))
 replace zr:=eR zr ho0 hb
 replace za:=bK za hb
 replace zb:=bK zb hb
 replace HB:=bS (qB2 HB zd ze) hb
 (try clear hb)
 (try clear ho0)
 obtain⟨yp,yq,z0⟩:=Kd.R_slice zw.out
 (first|subst z0|(injection z0 with f1_ f2_ f3_;have f4_:=f1_.symm;have f5_:=f3_.symm;clear f1_ f2_ f3_;subst f4_;subst f5_))
 obtain⟨yr,ys,z1⟩:=Kd.R_slice zr.out
 (first|subst z1|(injection z1 with f1_ f2_ f3_;have f4_:=f1_.symm;have f5_:=f3_.symm;clear f1_ f2_ f3_;subst f4_;subst f5_))
 refine hK.out _ _ (h3 za) (fun hHeld=>?_)
 clear hK K
 refine norm_ (a':=?_) ?_ ?_
 rotate_left
 ·show Act.put _ (some 33) _=_
  simp only [Act.put,sP,i64_w,i32_w]
  rfl
 refine pQ 6 34 9 127 HT_ ?_
 refine one_ (i:=7) (N:=none) (bm 9 255) rfl rfl (one_of HT_.out (by kernel_rfl)) (by decide) (fun K hK=>?_)
 have hs27:w24.cell? ⟨zg,0,none⟩=some (.int .i64 0):=(blk_cell zb.out 0).trans rfl
 have hfs27:=blk_frozen zb.out 0
 have hns27_0:=zc.out
 have hms27_0:=zf.out
 have hs28:w24.cell? ⟨zg,1,none⟩=some (.slice none 0 0):=(blk_cell zb.out 1).trans rfl
 have hfs28:=blk_frozen zb.out 1
 have hns28_0:=zc.out
 have hms28_0:=zf.out
 have hs29:w24.cell? ⟨zg,2,none⟩=some (.slice none 0 0):=(blk_cell zb.out 2).trans rfl
 have hfs29:=blk_frozen zb.out 2
 have hns29_0:=zc.out
 have hms29_0:=zf.out
 refine skip_ (w1:=?_) (by rfl) rfl ?_ ?_
 rotate_left
 ·go_simp
  rfl
 refine hK.out _ _ ⟨((cell_far (p:=⟨zg,_,none⟩) zc.out _).trans (((cell_far (p:=⟨zg,_,none⟩) zc.out _).trans (((cell_far (p:=⟨zg,_,none⟩) zc.out _).trans (hHeld.1)))))),((cell_far (p:=⟨zg,_,none⟩) zc.out _).trans (((cell_far (p:=⟨zg,_,none⟩) zc.out _).trans (((cell_far (p:=⟨zg,_,none⟩) zc.out _).trans (hHeld.2.1)))))),((cell_far (p:=⟨zg,_,none⟩) zc.out _).trans (((cell_far (p:=⟨zg,_,none⟩) zc.out _).trans (((cell_far (p:=⟨zg,_,none⟩) zc.out _).trans (hHeld.2.2))))))⟩ (fun hHeld=>?_)
 clear hK K
 refine pQ 8 5 9 511 HT_ ?_
 refine dN HT_ ?_
 try go_wp2
 refine bodyPost_ret (results_ct rfl _ _ zg 44 #[.int .i64 yb,.slice yr zs.length ys,.slice yp zt.length yq] (0,0) _ rfl (by exact P3 zb) Try.underlying44 rfl (by kernel_rfl)) rfl ?_
 exact⟨_,_,pE,by(with_reducible repeat(first|apply rA|apply rN|apply rD));exact F3 zr zb (fun _ hk=>hk.1.2),by(with_reducible repeat(first|apply rA|apply rN|apply rD));exact F3 zw zb (fun _ hk=>hk.1.2),qB2 HB zd ze⟩
mutual
def fci.j0:Nat→Int→Int→Int→Int→Bool→Int→List Int→List Int→Option (Int×List Int×List Int×Int)
 | 0,_,_,_,_,_,_,_,_=>none
 | k + 1,x1,x2,x3,x4,x27,zt,zn,zr=>if x27=true then(some (0,([]:List Int),([]:List Int),10))else(if 0≤x1 then(if x1 < (zn.length:Int)then(if x2 < 0 then(fci.j1 k x1 x2 x3 x4 (rd zn x1) true zt zn zr)else(if x2 ≥ (rd zn x1)then(fci.j1 k x1 x2 x3 x4 (rd zn x1) true zt zn zr)else(if x3 < 1 then(fci.j1 k x1 x2 x3 x4 (rd zn x1) true zt zn zr)else(fci.j1 k x1 x2 x3 x4 (rd zn x1) (decide (x3 > (rd zn x1))) zt zn zr))))else(none))else(none))
def fci.j1:Nat→Int→Int→Int→Int→Int→Bool→Int→List Int→List Int→Option (Int×List Int×List Int×Int)
 | 0,_,_,_,_,_,_,_,_,_=>none
 | k + 1,x1,x2,x3,x4,x12,x49,zt,zn,zr=>if x49=true then(some (0,([]:List Int),([]:List Int),11))else((fck.f zt zn zr).bind fun bt179=>(if x3 > 1 then(if x4=0 then(fci.j2 k x1 x2 x3 x4 x12 true zt zn zr bt179.1 bt179.2.1 bt179.2.2)else(if x4 ≥ x12 then(fci.j2 k x1 x2 x3 x4 x12 true zt zn zr bt179.1 bt179.2.1 bt179.2.2)else(fci.j2 k x1 x2 x3 x4 x12 (decide (x4≤(wrap64 (-x12)))) zt zn zr bt179.1 bt179.2.1 bt179.2.2)))else(fci.j3 k x1 x2 x3 zt zn zr bt179.1 bt179.2.1 bt179.2.2)))
def fci.j3:Nat→Int→Int→Int→Int→List Int→List Int→Int→List Int→List Int→Option (Int×List Int×List Int×Int)
 | 0,_,_,_,_,_,_,_,_,_=>none
 | k + 1,x1,x2,x3,zt,zn,zr,z0,z1,zw=>if x2 > 0 then(if 0≤x1 then(if x1 < (zr.length:Int)then(if x1 < (z1.length:Int)then((some (z1.set (x1:Int).toNat x3:List Int)).bind fun z9=>(if x3=1 then(if x1 < (zw.length:Int)then(some (wrap64 (z0 + (wrap64 (x2 * (rd zr x1)))),z9,(zw.set (x1:Int).toNat 0),0))else(none))else(some (wrap64 (z0 + (wrap64 (x2 * (rd zr x1)))),z9,zw,0))))else(none))else(none))else(none))else(if 0≤x1 then(if x1 < (z1.length:Int)then((some (z1.set (x1:Int).toNat x3:List Int)).bind fun zaa=>(if x3=1 then(if x1 < (zw.length:Int)then(some (z0,zaa,(zw.set (x1:Int).toNat 0),0))else(none))else(some (z0,zaa,zw,0))))else(none))else(none))
def fci.j2:Nat→Int→Int→Int→Int→Int→Bool→Int→List Int→List Int→Int→List Int→List Int→Option (Int×List Int×List Int×Int)
 | 0,_,_,_,_,_,_,_,_,_,_,_,_=>none
 | k + 1,x1,x2,x3,x4,x12,x67,zt,zn,zr,z0,z1,zw=>if x67=true then(some (0,([]:List Int),([]:List Int),11))else(if(wrap64 (x2 + (wrap64 ((wrap64 (x3 - 1)) * x4)))) < 0 then(some (0,([]:List Int),([]:List Int),11))else(if(wrap64 (x2 + (wrap64 ((wrap64 (x3 - 1)) * x4)))) ≥ x12 then(some (0,([]:List Int),([]:List Int),11))else(if 0≤x1 then(if x1 < (zr.length:Int)then(if x1 < (zw.length:Int)then(fci.j3 k x1 x2 x3 zt zn zr z0 z1 (zw.set (x1:Int).toNat (wrap64 ((rd zr x1) * x4))))else(none))else(none))else(none))))
end
def fci.f (k:Nat) (yc:Int) (yb:List Int) (ya:List Int) (a1:Int) (a2:Int) (a3:Int) (a4:Int):Option (Int×List Int×List Int×Int):=(fcm.f k yc yb ya).bind fun zam=>(if zam=true then(if a1 < 0 then(fci.j0 k a1 a2 a3 a4 true yc yb ya)else(fci.j0 k a1 a2 a3 a4 (decide (a1 ≥ (yb.length:Int))) yc yb ya))else(some (0,([]:List Int),([]:List Int),1)))
def fci.T15:TT:=(true,[([],[]),([0],[0]),([],[]),([],[]),([3],[3]),([],[]),([4,5],[4,5]),([6],[6]),([],[]),([7,8],[7,8]),([1,2,0,1,2,3,4,5,6,7,8,9],[1,2]),([10,9,0,1,2,3,4,5,6,7,8,9],[9,10])])
def fci.B15:List Nat:=[0,1,0,0,8,0,56,120,0,504,1023,2047]
theorem fci.tab15:rtab .any (opsOf Try.f45 15)=fci.T15:=by kernel_rfl
theorem fci.bits15:waitsOk fci.T15.2 fci.B15=true:=by kernel_rfl
def fci.T17:TT:=(true,[([],[]),([0],[0]),([],[]),([],[]),([3],[3]),([],[]),([4,5],[4,5]),([6],[6]),([2,7],[2,7]),([1,8],[1,8]),([0,1,2,3,4,5,6,7,8,9],[]),([10,9,0,1,2,3,4,5,6,7,8,9],[9,10])])
def fci.B17:List Nat:=[0,1,0,0,8,0,56,120,252,511,1023,2047]
theorem fci.tab17:rtab .any (opsOf Try.f45 17)=fci.T17:=by kernel_rfl
theorem fci.bits17:waitsOk fci.T17.2 fci.B17=true:=by kernel_rfl
theorem fci.calls (k:Nat) (yc:Int)(yr:Option Addr)(yf:Nat)(yb:List Int)(yj:Option Addr)(yg:Nat)(ya:List Int) (a1:Int) (a2:Int) (a3:Int) (a4:Int) (r1:Int)(r2:List Int)(r3:List Int) (r4:Int)(w:World)(yx:Kd.C (Kd.int .i64) w yr yb.length yb)(yy:yb.length≤yf)(yz:Kd.C (Kd.int .i64) w yj ya.length ya)(y0:ya.length≤yg)(h:fci.f k yc yb ya a1 a2 a3 a4=some (r1,r2,r3,r4)) :
  Calls Try.prog 45 #[.agg #[.int .i64 yc,.slice yr yb.length yf,.slice yj ya.length yg],.int .i64 a1,.int .i64 a2,.int .i64 a3,.int .i64 a4] w fun e w'=>∃ v1_ v2_:Value,e=.returned (.tuple #[.agg #[.int .i64 r1,v1_,v2_],.int .i64 r4])∧Kd.R (Kd.int .i64) 3 w' w.heap.size (fun k_=>some k_≠(v2_:Value).ownBlock) v1_ r2∧Kd.R (Kd.int .i64) 3 w' w.heap.size (fun k_=>some k_≠(v1_:Value).ownBlock) v2_ r3∧Below w.heap.size w w':=by
 have hu44:=Try.underlying44
 have zag:=aM yx
 have zan:=aM yy
 clear yx yy
 have z7:=aM yz
 have zao:=aM y0
 clear yz y0
 have HB:=aM (Below.refl w.heap.size w)
 have H:((fcm.f k yc yb ya).bind fun zam=>(if zam=true then(if a1 < 0 then(fci.j0 k a1 a2 a3 a4 true yc yb ya)else(fci.j0 k a1 a2 a3 a4 (decide (a1 ≥ (yb.length:Int))) yc yb ya))else(some (0,([]:List Int),([]:List Int),1))))=some (r1,r2,r3,r4):=h
 clear h
 replace H:=oB H
 obtain⟨zam,A60,H⟩:=H
 try dsimp only at H
 have A6:=aM A60
 clear A60
 by_cases c7:zam=true
 rotate_left
 ·replace c7:=Bool.eq_false_iff.mpr c7
  subst c7
  rw [iN (show ¬ (false=true) by decide)] at H
  replace H:=oi4 H
  obtain⟨rfl,rfl,rfl,rfl⟩:=H
  go_enter Try.func45,Try.ntmps45
  go_wp2_with (first|((with_reducible refine gD 5 rfl ?_);(try (refine gate_guard (by rfl) ?_;dsimp only));refine bX 5 44 #[.int .i64 yc,.slice yr yb.length yf,.slice yj ya.length yg] ?_;intro zu hg w124 hbox hb;have zf:=aM (hbox);have zap:=gE (w:=w) hg (qB HB);have zl:=zap;replace HB:=bS (qB HB) hb;clear hb hbox hg)|((with_reducible refine gD 10 rfl ?_);(try (refine gate_guard (by rfl) ?_;dsimp only));refine bX 10 44 #[.int .i64 0,.slice none 0 0,.slice none 0 0] ?_;intro zm hg w125 hbox hb;have ze:=aM (hbox);have zaq:=gE (w:=w) hg (qB1 HB zl);have zp:=zaq;replace HB:=bS (qB1 HB zl) hb;have zj:=nL hg zf;have zk:=nG hg zf;replace zf:=bK zf hb;clear hb hbox hg;have hnb126:=zj.out;have hnc126:=zk.out;have hcz127:=blk3 zf.out)|((with_reducible refine gC 49 rfl ?_);refine gL 16 Try.func49 #[.agg #[.int .i64 yc,.slice yr yb.length yf,.slice yj ya.length yg]] ?_;(with_reducible refine(fcm.calls k yc _ _ yb _ _ ya false _ ?s1 zan.out ?s3 zao.out A6.out).mono ?_);(case s1=>exact sC zag HB);(case s3=>exact sC z7 HB);rintro e w128 ⟨rfl,hb⟩;refine⟨_,rfl,?_⟩;replace zf:=bK zf hb;replace ze:=bK ze hb;replace HB:=bS (qB2 HB zl zp) hb;(try clear hb);(try clear hk);(try clear hi);have hcz129:=blk3 ze.out))
  refine bodyPost_ret (results_ct rfl _ _ zm 44 #[.int .i64 0,.slice none 0 0,.slice none 0 0] (0,0) _ rfl (by exact P3 ze) Try.underlying44 rfl (by kernel_rfl)) rfl ?_
  exact⟨_,_,pE,pN,pN,qB2 HB zl zp⟩
 subst c7
 rw [ip rfl] at H
 have HC8:=aM H
 clear H
 go_enter Try.func45,Try.ntmps45
 go_upto_region 3 with(first|((with_reducible refine gD 5 rfl ?_);(try (refine gate_guard (by rfl) ?_;dsimp only));refine bX 5 44 #[.int .i64 yc,.slice yr yb.length yf,.slice yj ya.length yg] ?_;intro zu hg w9 hbox hb;have zf:=aM (hbox);have zap:=gE (w:=w) hg (qB HB);have zl:=zap;replace HB:=bS (qB HB) hb;clear hb hbox hg)|((with_reducible refine gD 10 rfl ?_);(try (refine gate_guard (by rfl) ?_;dsimp only));refine bX 10 44 #[.int .i64 0,.slice none 0 0,.slice none 0 0] ?_;intro zm hg w10 hbox hb;have ze:=aM (hbox);have zaq:=gE (w:=w) hg (qB1 HB zl);have zp:=zaq;replace HB:=bS (qB1 HB zl) hb;have zj:=nL hg zf;have zk:=nG hg zf;replace zf:=bK zf hb;clear hb hbox hg;have hnb11:=zj.out;have hnc11:=zk.out;have y8:=blk3 zf.out)|((with_reducible refine gC 49 rfl ?_);refine gL 16 Try.func49 #[.agg #[.int .i64 yc,.slice yr yb.length yf,.slice yj ya.length yg]] ?_;(with_reducible refine(fcm.calls k yc _ _ yb _ _ ya true _ ?s1 zan.out ?s3 zao.out A6.out).mono ?_);(case s1=>exact sC zag HB);(case s3=>exact sC z7 HB);rintro e w13 ⟨rfl,hb⟩;refine⟨_,rfl,?_⟩;replace zf:=bK zf hb;replace ze:=bK ze hb;replace HB:=bS (qB2 HB zl zp) hb;(try clear hb);(try clear hk);(try clear hi)))
 (try simp only [Act.put,sP])
 go_cut [27] (fun v27 wc=>∃ (kq:Nat) (ys:Bool),v27=.bool ys∧Aside0 (fci.j0 kq a1 a2 a3 a4 ys yc yb ya=some (r1,r2,r3,r4))∧Aside0 (kq≤k)∧Aside0 (wc.heap[zu]?=some (.cells #[.int .i64 yc,(.slice yr yb.length yf),(.slice yj ya.length yg)] 44 (0,0)))∧Aside0 (wc.heap[zm]?=some (.cells #[.int .i64 0,(.slice none 0 0),(.slice none 0 0)] 44 (0,0)))∧Aside0 (Below w.heap.size w wc))
 case first =>
  have H:=HC8.out
  clear HC8
  by_cases c14:a1 < 0
  ·rw [ip c14] at H
   have zab:=dT c14
   clear c14
   (first|rw [zab]|(simp only [i64_w,i32_w];rw [zab])|skip)
   have H':=aM H
   clear H
   go_wp2
   go_meet
   case rel=>exact⟨_,(true),(pF),H',⟨pO⟩,⟨pK zf.out⟩,⟨pK ze.out⟩,⟨qB2 HB zl zp⟩⟩
  rw [iN c14] at H
  have zab:=dF c14
  clear c14
  (first|rw [zab]|(simp only [i64_w,i32_w];rw [zab])|skip)
  have H':=aM H
  clear H
  have hnb15:=zj.out
  have hnc15:=zk.out
  have hcz16:=blk3 zf.out
  go_wp2
  go_meet
  case rel=>exact⟨_,(decide (a1 ≥ (yb.length:Int))),(pF),H',⟨pO⟩,⟨pK zf.out⟩,⟨pK ze.out⟩,⟨qB2 HB zl zp⟩⟩
 clear HC8
 try clear c7
 try clear y8
 obtain⟨kq,ys,rfl,HA,HJ7,zf,ze,HB⟩:=hcut
 cases kq with
 | zero=>exact absurd HA.out (by simp [fci.j0])
 | succ kj7=>?_
 have H:=HA.out
 clear HA
 simp only [fci.j0] at H
 by_cases c17:ys=true
 ·subst c17
  rw [ip rfl] at H
  replace H:=oi4 H
  obtain⟨rfl,rfl,rfl,rfl⟩:=H
  have hnb18:=zk.out
  have hnc18:=zj.out
  have hcz19:=blk3 ze.out
  go_wp2
  refine bodyPost_ret (results_ct rfl _ _ zm 44 #[.int .i64 0,.slice none 0 0,.slice none 0 0] (0,0) _ rfl (by exact P3 ze) Try.underlying44 rfl (by kernel_rfl)) rfl ?_
  exact⟨_,_,pE,pN,pN,qB2 HB zl zp⟩
 replace c17:=Bool.eq_false_iff.mpr c17
 subst c17
 rw [iN (show ¬ (false=true) by decide)] at H
 by_cases c20:0≤a1
 rotate_left
 ·rw [iN c20] at H
  cases H
 rw [ip c20] at H
 have y9:=dT c20
 clear c20
 by_cases c21:a1 < (yb.length:Int)
 rotate_left
 ·rw [iN c21] at H
  cases H
 rw [ip c21] at H
 have yaa:=dT c21
 clear c21
 have HC22:=aM H
 clear H
 have hnb23:=zj.out
 have hnc23:=zk.out
 have yab:=blk3 zf.out
 obtain⟨yh,⟨⟩,ym,yaq,yar⟩:=zI zag.out a1
 replace ym:=zW HB ym
 go_upto_region 6 with(fail)
 go_cut [49] (fun v49 wc=>∃ (kq:Nat) (yn:Bool),v49=.bool yn∧Aside0 (fci.j1 kq a1 a2 a3 a4 (rd yb a1) yn yc yb ya=some (r1,r2,r3,r4))∧Aside0 (kq≤kj7)∧Aside0 (wc.heap[zu]?=some (.cells #[.int .i64 yc,(.slice (some yh) yb.length yf),(.slice yj ya.length yg)] 44 (0,0)))∧Aside0 (wc.heap[zm]?=some (.cells #[.int .i64 0,(.slice none 0 0),(.slice none 0 0)] 44 (0,0)))∧Aside0 (Below w.heap.size w wc))
 case first =>
  have H:=HC22.out
  clear HC22
  by_cases c25:a2 < 0
  ·rw [ip c25] at H
   have zac:=dT c25
   clear c25
   (first|rw [zac]|(simp only [i64_w,i32_w];rw [zac])|skip)
   have H':=aM H
   clear H
   go_wp2
   go_meet
   case rel=>exact⟨_,(true),(pF),H',⟨pO1 HJ7⟩,⟨pK zf.out⟩,⟨pK ze.out⟩,⟨qB2 HB zl zp⟩⟩
  rw [iN c25] at H
  have zac:=dF c25
  clear c25
  (first|rw [zac]|(simp only [i64_w,i32_w];rw [zac])|skip)
  by_cases c26:a2 ≥ (rd yb a1)
  ·rw [ip c26] at H
   have yac:decide ((rd yb a1)≤a2)=true:=decide_eq_true c26
   clear c26
   have H':=aM H
   clear H
   go_wp2
   go_meet
   case rel=>exact⟨_,(true),(pF),H',⟨pO1 HJ7⟩,⟨pK zf.out⟩,⟨pK ze.out⟩,⟨qB2 HB zl zp⟩⟩
  rw [iN c26] at H
  have yac:decide ((rd yb a1)≤a2)=false:=decide_eq_false c26
  clear c26
  by_cases c27:a3 < 1
  ·rw [ip c27] at H
   have yad:=dT c27
   clear c27
   have H':=aM H
   clear H
   go_wp2
   go_meet
   case rel=>exact⟨_,(true),(pF),H',⟨pO1 HJ7⟩,⟨pK zf.out⟩,⟨pK ze.out⟩,⟨qB2 HB zl zp⟩⟩
  rw [iN c27] at H
  have yad:=dF c27
  clear c27
  have H':=aM H
  clear H
  go_wp2
  go_meet
  case rel=>exact⟨_,(decide (a3 > (rd yb a1))),(pF),H',⟨pO1 HJ7⟩,⟨pK zf.out⟩,⟨pK ze.out⟩,⟨qB2 HB zl zp⟩⟩
 clear HC22
 try clear c17
 try clear y9
 try clear yaa
 try clear yab
 try clear ym
 try clear yaq
 try clear yar
 obtain⟨kq,yn,rfl,HA,zar,zf,ze,HB⟩:=hcut
 cases kq with
 | zero=>exact absurd HA.out (by simp [fci.j1])
 | succ za9=>?_
 have H:=HA.out
 clear HA
 simp only [fci.j1] at H
 by_cases c28:yn=true
 ·subst c28
  rw [ip rfl] at H
  replace H:=oi4 H
  obtain⟨rfl,rfl,rfl,rfl⟩:=H
  have hnb29:=zk.out
  have hnc29:=zj.out
  have hcz30:=blk3 ze.out
  go_wp2
  refine bodyPost_ret (results_ct rfl _ _ zm 44 #[.int .i64 0,.slice none 0 0,.slice none 0 0] (0,0) _ rfl (by exact P3 ze) Try.underlying44 rfl (by kernel_rfl)) rfl ?_
  exact⟨_,_,pE,pN,pN,qB2 HB zl zp⟩
 replace c28:=Bool.eq_false_iff.mpr c28
 subst c28
 rw [iN (show ¬ (false=true) by decide)] at H
 replace H:=oB H
 obtain⟨⟨zq,z4,z3⟩,zba,H⟩:=H
 try dsimp only at H
 have A31:=aM zba
 clear zba
 have HC32:=aM H
 clear H
 have hnb33:=zj.out
 have hnc33:=zk.out
 have yae:=blk3 zf.out
 go_upto_if 54 with(first|((with_reducible refine gC 72 rfl ?_);refine gL 52 Try.func72 #[.agg #[.int .i64 yc,.slice (some yh) yb.length yf,.slice yj ya.length yg]] ?_;(with_reducible refine(fck.calls yc _ _ yb _ _ ya zq z4 z3 _ ?s1 zan.out ?s3 zao.out A31.out).mono ?_);(case s1=>exact sC zag HB);(case s3=>exact sC z7 HB);rintro e w35 ⟨v181,v184,rfl,ho0,ho1,hb⟩;refine⟨_,rfl,?_⟩;have z5:=aM (Kd.R_lower ho0 (below_size (qB2 HB zl zp)));have z6:=aM (Kd.R_lower ho1 (below_size (qB2 HB zl zp)));replace zf:=bK zf hb;replace ze:=bK ze hb;replace HB:=bS (qB2 HB zl zp) hb;(try clear hb);(try clear hk);(try clear hi);(try clear ho0);(try clear ho1))|((with_reducible refine gD 13 rfl ?_);(try (refine gate_guard (by rfl) ?_;dsimp only));refine bX 13 44 #[.int .i64 0,.slice none 0 0,.slice none 0 0] ?_;intro zh hg w36 hbox hb;replace z5:=bR z5 hb;replace z6:=bR z6 hb;have zg:=aM (hbox);have GW186:=gE (w:=w) hg (qB2 HB zl zp);have zx:=GW186;replace HB:=bS (qB2 HB zl zp) hb;have zo:=nL hg zf;have zv:=nG hg zf;replace zf:=bK zf hb;have zi:=nL hg ze;have zs:=nG hg ze;replace ze:=bK ze hb;clear hb hbox hg;have hnb37:=zv.out;have hnc37:=zo.out;have hnb38:=zs.out;have hnc38:=zi.out;have yaf:=blk3 zg.out;obtain⟨zai,zaj,yas⟩:=Kd.R_slice z5.out;subst yas;obtain⟨za0,zak,yat⟩:=Kd.R_slice z6.out;subst yat))
 (try simp only [Act.put,sP])
 go_cut [] (fun wc=>∃ (kq:Nat) (zy:Int) (zc:List Int) (zd:List Int) (u187001:Value) (u187002:Value),Aside0 (fci.j3 kq a1 a2 a3 yc yb ya zq zc zd=some (r1,r2,r3,r4))∧Aside0 (kq≤za9)∧Aside0 (Kd.R (Kd.int .i64) 3 wc w.heap.size (fun k_=>some k_≠(u187002:Value).ownBlock) u187001 zc)∧Aside0 (Kd.R (Kd.int .i64) 3 wc w.heap.size (fun k_=>some k_≠(u187001:Value).ownBlock) u187002 zd)∧Aside0 (wc.heap[zu]?=some (.cells #[.int .i64 yc,(.slice (some yh) yb.length yf),(.slice yj ya.length yg)] 44 (0,0)))∧Aside0 (wc.heap[zm]?=some (.cells #[.int .i64 zy,(.slice none 0 0),(.slice none 0 0)] 44 (0,0)))∧Aside0 (wc.heap[zh]?=some (.cells #[.int .i64 zq,u187001,u187002] 44 (0,0)))∧Aside0 (Below w.heap.size w wc))
 case first =>
  have H:=HC32.out
  clear HC32
  by_cases c42:a3 > 1
  rotate_left
  ·rw [iN c42] at H
   have z8:decide (1 < a3)=false:=decide_eq_false c42
   clear c42
   (first|rw [z8]|(simp only [i64_w,i32_w];rw [z8])|skip)
   have H':=aM H
   clear H
   go_wp2
   go_meet
   case rel=>exact⟨_,(0),(z4),(z3),(.slice zai z4.length zaj),(.slice za0 z3.length zak),H',⟨pO2 HJ7 zar⟩,⟨by(with_reducible repeat(first|apply rA|apply rN|apply rD));exact F3 z5 zg (fun _ hk=>hk.1)⟩,⟨by(with_reducible repeat(first|apply rA|apply rN|apply rD));exact F3 z6 zg (fun _ hk=>hk.1)⟩,⟨by refine B3 zo ?_;exact zf.out⟩,⟨by refine B3 zi ?_;exact ze.out⟩,⟨by exact P3 zg⟩,⟨qB3 HB zl zp zx⟩⟩
  rw [ip c42] at H
  have z8:decide (1 < a3)=true:=decide_eq_true c42
  clear c42
  (first|rw [z8]|(simp only [i64_w,i32_w];rw [z8])|skip)
  have HC43:=aM H
  clear H
  go_upto_region 10 with(fail)
  go_cut [67] (fun v67 wc=>∃ (kq:Nat) (yo:Bool),v67=.bool yo∧Aside0 (fci.j2 kq a1 a2 a3 a4 (rd yb a1) yo yc yb ya zq z4 z3=some (r1,r2,r3,r4))∧Aside0 (kq≤za9)∧Aside0 (Kd.R (Kd.int .i64) 3 wc w.heap.size (fun k_=>some k_≠((.slice za0 z3.length zak):Value).ownBlock) (.slice zai z4.length zaj) z4)∧Aside0 (Kd.R (Kd.int .i64) 3 wc w.heap.size (fun k_=>some k_≠((.slice zai z4.length zaj):Value).ownBlock) (.slice za0 z3.length zak) z3)∧Aside0 (wc.heap[zu]?=some (.cells #[.int .i64 yc,(.slice (some yh) yb.length yf),(.slice yj ya.length yg)] 44 (0,0)))∧Aside0 (wc.heap[zm]?=some (.cells #[.int .i64 0,(.slice none 0 0),(.slice none 0 0)] 44 (0,0)))∧Aside0 (wc.heap[zh]?=some (.cells #[.int .i64 zq,(.slice zai z4.length zaj),(.slice za0 z3.length zak)] 44 (0,0)))∧Aside0 (Below w.heap.size w wc))
  case first =>
   have H:=HC43.out
   clear HC43
   by_cases c44:a4=0
   ·rw [ip c44] at H
    have zad:=bT c44
    have yag:=nF c44
    clear c44
    (first|rw [zad]|(simp only [i64_w,i32_w];rw [zad])|skip)
    have H':=aM H
    clear H
    go_wp2
    go_meet
    case rel=>exact⟨_,(true),(pF),H',⟨pO2 HJ7 zar⟩,⟨by(with_reducible repeat(first|apply rA|apply rN|apply rD));exact F3 z5 zg (fun _ hk=>hk.1)⟩,⟨by(with_reducible repeat(first|apply rA|apply rN|apply rD));exact F3 z6 zg (fun _ hk=>hk.1)⟩,⟨by refine B3 zo ?_;exact zf.out⟩,⟨by refine B3 zi ?_;exact ze.out⟩,⟨by exact P3 zg⟩,⟨qB3 HB zl zp zx⟩⟩
   rw [iN c44] at H
   have zad:=bF c44
   have yag:=nT c44
   (first|rw [zad]|(simp only [i64_w,i32_w];rw [zad])|skip)
   by_cases c45:a4 ≥ (rd yb a1)
   ·rw [ip c45] at H
    have yah:decide ((rd yb a1)≤a4)=true:=decide_eq_true c45
    clear c45
    have H':=aM H
    clear H
    go_wp2
    go_meet
    case rel=>exact⟨_,(true),(pF),H',⟨pO2 HJ7 zar⟩,⟨by(with_reducible repeat(first|apply rA|apply rN|apply rD));exact F3 z5 zg (fun _ hk=>hk.1)⟩,⟨by(with_reducible repeat(first|apply rA|apply rN|apply rD));exact F3 z6 zg (fun _ hk=>hk.1)⟩,⟨by refine B3 zo ?_;exact zf.out⟩,⟨by refine B3 zi ?_;exact ze.out⟩,⟨by exact P3 zg⟩,⟨qB3 HB zl zp zx⟩⟩
   rw [iN c45] at H
   have yah:decide ((rd yb a1)≤a4)=false:=decide_eq_false c45
   clear c45
   have H':=aM H
   clear H
   go_wp2
   go_meet
   case rel=>exact⟨_,(decide (a4≤(wrap64 (-(rd yb a1))))),(pF),H',⟨pO2 HJ7 zar⟩,⟨by(with_reducible repeat(first|apply rA|apply rN|apply rD));exact F3 z5 zg (fun _ hk=>hk.1)⟩,⟨by(with_reducible repeat(first|apply rA|apply rN|apply rD));exact F3 z6 zg (fun _ hk=>hk.1)⟩,⟨by refine B3 zo ?_;exact zf.out⟩,⟨by refine B3 zi ?_;exact ze.out⟩,⟨by exact P3 zg⟩,⟨qB3 HB zl zp zx⟩⟩
  clear HC43
  try clear c28
  try clear z8
  try clear yae yaf
  obtain⟨kq,yo,rfl,HA,HJ42,zb,za,zf,ze,zg,HB⟩:=hcut
  cases kq with
  | zero=>exact absurd HA.out (by simp [fci.j2])
  | succ kj42=>?_
  have H:=HA.out
  clear HA
  simp only [fci.j2] at H
  by_cases c46:yo=true
  ·subst c46
   rw [ip rfl] at H
   replace H:=oi4 H
   obtain⟨rfl,rfl,rfl,rfl⟩:=H
   have hnb47:=zk.out
   have hnc47:=zj.out
   have hnb48:=zi.out
   have hnc48:=zs.out
   have hcz49:=blk3 ze.out
   go_wp2
   refine bodyPost_ret (results_ct rfl _ _ zm 44 #[.int .i64 0,.slice none 0 0,.slice none 0 0] (0,0) _ rfl (by exact P3 ze) Try.underlying44 rfl (by kernel_rfl)) rfl ?_
   exact⟨_,_,pE,pN,pN,qB3 HB zl zp zx⟩
  replace c46:=Bool.eq_false_iff.mpr c46
  subst c46
  rw [iN (show ¬ (false=true) by decide)] at H
  by_cases c50:(wrap64 (a2 + (wrap64 ((wrap64 (a3 - 1)) * a4)))) < 0
  ·rw [ip c50] at H
   have yai:=dT c50
   clear c50
   replace H:=oi4 H
   obtain⟨rfl,rfl,rfl,rfl⟩:=H
   have hnb51:=zk.out
   have hnc51:=zj.out
   have hnb52:=zi.out
   have hnc52:=zs.out
   have hcz53:=blk3 ze.out
   go_wp2
   refine bodyPost_ret (results_ct rfl _ _ zm 44 #[.int .i64 0,.slice none 0 0,.slice none 0 0] (0,0) _ rfl (by exact P3 ze) Try.underlying44 rfl (by kernel_rfl)) rfl ?_
   exact⟨_,_,pE,pN,pN,qB3 HB zl zp zx⟩
  rw [iN c50] at H
  have yai:=dF c50
  clear c50
  by_cases c54:(wrap64 (a2 + (wrap64 ((wrap64 (a3 - 1)) * a4)))) ≥ (rd yb a1)
  ·rw [ip c54] at H
   have yaj:decide ((rd yb a1)≤(wrap64 (a2 + (wrap64 ((wrap64 (a3 - 1)) * a4)))))=true:=decide_eq_true c54
   clear c54
   replace H:=oi4 H
   obtain⟨rfl,rfl,rfl,rfl⟩:=H
   have hnb55:=zk.out
   have hnc55:=zj.out
   have hnb56:=zi.out
   have hnc56:=zs.out
   have hcz57:=blk3 ze.out
   go_wp2
   refine bodyPost_ret (results_ct rfl _ _ zm 44 #[.int .i64 0,.slice none 0 0,.slice none 0 0] (0,0) _ rfl (by exact P3 ze) Try.underlying44 rfl (by kernel_rfl)) rfl ?_
   exact⟨_,_,pE,pN,pN,qB3 HB zl zp zx⟩
  rw [iN c54] at H
  have yaj:decide ((rd yb a1)≤(wrap64 (a2 + (wrap64 ((wrap64 (a3 - 1)) * a4)))))=false:=decide_eq_false c54
  clear c54
  by_cases c58:0≤a1
  rotate_left
  ·rw [iN c58] at H
   cases H
  rw [ip c58] at H
  have c58b0:=dT c58
  clear c58
  by_cases c59:a1 < (ya.length:Int)
  rotate_left
  ·rw [iN c59] at H
   cases H
  rw [ip c59] at H
  have c59b0:=dT c59
  clear c59
  by_cases c60:a1 < (z3.length:Int)
  rotate_left
  ·rw [iN c60] at H
   cases H
  rw [ip c60] at H
  have c60b0:=dT c60
  clear c60
  obtain⟨zbb,zas⟩:∃ y_:List Int,y_=(z3.set (a1:Int).toNat (wrap64 ((rd ya a1) * a4))):=⟨_,rfl⟩
  replace H:(fci.j3 kj42 a1 a2 a3 yc yb ya zq z4 zbb)=some (r1,r2,r3,r4):=pH zas H
  have Ny188:=aM zas
  clear zas
  have H':=aM H
  clear H
  try go_wp2
  replace zb:=aM (Kd.R_drew zb.out)
  replace za:=aM (Kd.R_drew za.out)
  replace zf:=aM (blk_drew zf.out)
  replace ze:=aM (blk_drew ze.out)
  replace zg:=aM (blk_drew zg.out)
  replace HB:=aM (below_drew1 HB.out)
  obtain⟨y1,⟨⟩,yt,p187,q187⟩:=zI z7.out a1
  have yu:=zW HB yt
  have p61:0≤(a1:Int):=oD
  have q61:(a1:Int) < ((z3.length:Int):Int):=oD
  obtain⟨yv,co61,zbc,zbd,gl61,cl61,HG61⟩:=Kd.R_form za.out (by omega)
  (first|cases zbc|(injection zbc with ea_ en_ ec_;(first|subst ea_|(injection ea_ with ea_;subst ea_));subst ec_;clear en_))
  have GB61:=aM zbd
  have GG61:=aM HG61
  clear zbd gl61 HG61
  obtain⟨y2,hf61_0⟩:=Kd.R_celln 0 za.out (a1:Int) p61 q61
  have HP63:=Kd.R_putn za.out (a1:Int) (wrap64 ((rd ya a1) * a4))
  rw [← Ny188.out] at HP63
  have HQ63:=aM HP63
  clear HP63
  refine sT 12 [11] (fun w'=>w'.cell? ⟨zh,0,none⟩=some (.int .i64 zq)∧w'.cell? ⟨zh,1,none⟩=some (.slice zai z4.length zaj)∧w'.cell? ⟨zh,2,none⟩=some (.slice (some ⟨yv,0,none⟩) z3.length zak)∧w'.cell? ⟨zu,0,none⟩=some (.int .i64 yc)∧w'.cell? ⟨zu,1,none⟩=some (.slice (some yh) yb.length yf)∧w'.cell? ⟨zu,2,none⟩=some (.slice (some y1) ya.length yg)∧w'.cell? (y1.add (a1).toNat)=some (.int .i64 (rd ya a1))) fci.tab15 fci.bits15 ⟨(blk_cell zg.out 0).trans rfl,(blk_cell zg.out 1).trans rfl,(blk_cell zg.out 2).trans rfl,(blk_cell zf.out 0).trans rfl,(blk_cell zf.out 1).trans rfl,(blk_cell zf.out 2).trans rfl,(zW HB yt)⟩ (fun hHeld HT_ HW_=>?_)
  generalize wc.drew=w62 at zb za zf ze zg HB GG61 HQ63 hf61_0 yu y2 hHeld ⊢
  refine pQ 0 83 12 1 HT_ ?_
  refine pQ 2 85 12 5 HT_ ?_
  refine pQ 3 86 12 13 HT_ ?_
  refine pQ 5 88 12 45 HT_ ?_
  refine pQ 8 91 12 301 HT_ ?_
  refine pU7 1 84 12 303 HT_ HW_ hHeld ?_
  refine pU7 4 87 12 319 HT_ HW_ hHeld ?_
  refine pQ 6 89 12 383 HT_ ?_
  refine pU7 7 90 12 511 HT_ HW_ hHeld ?_
  refine pQ 9 92 12 1023 HT_ ?_
  refine pQ 10 93 12 2047 HT_ ?_
  refine last_ (i:=11) (N:=none) (bm 12 4095) rfl rfl (one_of HT_.out (by kernel_rfl)) (by decide) (fun K hK=>?_)
  refine skip_ (w1:=?_) (by rfl) rfl ?_ ?_
  rotate_left
  ·go_simp
   rfl
  refine hK.out _ _ ?_
  clear hK K
  refine dN HT_ ?_
  try go_wp2
  go_meet
  case rel=>exact⟨_,(0),(z4),(zbb),(.slice zai z4.length zaj),(.slice (some ⟨yv,0,none⟩) z3.length zak),H',⟨by have:=HJ7.out;have:=zar.out;have:=HJ42.out;first|omega|exact Nat.le_refl _⟩,⟨by(with_reducible repeat(first|apply rA|apply rN|apply rD));exact Kd.R_mono (Kd.R_far (p:=⟨yv,(a1:Int).toNat,none⟩) (Kd.R_mono zb.out (fun k_ hk=>(⟨hk,fun e_=>hk (by rw [e_];rfl)⟩:_∧k_≠yv))) (fun _ hk=>hk.2) (.int .i64 (wrap64 ((rd ya a1) * a4)))) (fun _ hk=>hk.1)⟩,⟨pR HQ63.out⟩,⟨by(with_reducible repeat(first|apply bN|apply bD|apply bA));refine blk_far ?_ (by have h_:=Kd.R_ne za.out zf.out (by decide);intro e_;exact h_ (by rw [e_];rfl)) _;(with_reducible repeat(first|apply bN|apply bD|apply bA));exact zf.out⟩,⟨by(with_reducible repeat(first|apply bN|apply bD|apply bA));refine blk_far ?_ (by have h_:=Kd.R_ne za.out ze.out (by decide);intro e_;exact h_ (by rw [e_];rfl)) _;(with_reducible repeat(first|apply bN|apply bD|apply bA));exact ze.out⟩,⟨by(with_reducible repeat(first|apply bN|apply bD|apply bA));refine blk_far ?_ (by have h_:=Kd.R_ne za.out zg.out (by decide);intro e_;exact h_ (by rw [e_];rfl)) _;(with_reducible repeat(first|apply bN|apply bD|apply bA));exact zg.out⟩,⟨qB4 HB GB61 zl zp zx⟩⟩
 clear HC32
 obtain⟨kq,zy,zc,zd,u187001,u187002,HA,HJ31,zb,za,zf,ze,zg,HB⟩:=hcut
 cases kq with
 | zero=>exact absurd HA.out (by simp [fci.j3])
 | succ kj31=>?_
 have H:=HA.out
 clear HA
 simp only [fci.j3] at H
 by_cases c64:a2 > 0
 rotate_left
 ·rw [iN c64] at H
  have yak:decide (0 < a2)=false:=decide_eq_false c64
  clear c64
  by_cases c98:0≤a1
  rotate_left
  ·rw [iN c98] at H
   cases H
  rw [ip c98] at H
  have c98b0:=dT c98
  clear c98
  by_cases c99:a1 < (zc.length:Int)
  rotate_left
  ·rw [iN c99] at H
   cases H
  rw [ip c99] at H
  have c99b0:=dT c99
  clear c99
  obtain⟨zaa,zat⟩:∃ y_:List Int,y_=(zc.set (a1:Int).toNat a3):=⟨_,rfl⟩
  replace H:(if a3=1 then(if a1 < (zd.length:Int)then(some (zq,zaa,(zd.set (a1:Int).toNat 0),0))else(none))else(some (zq,zaa,zd,0)))=some (r1,r2,r3,r4):=pH zat H
  have za1:=aM zat
  clear zat
  by_cases c101:a3=1
  rotate_left
  ·rw [iN c101] at H
   have y3:=bF c101
   have y4:=nT c101
   replace H:=oi4 H
   obtain⟨rfl,rfl,rfl,rfl⟩:=H
   have hnb115:=zv.out
   have hnc115:=zo.out
   have hnb116:=zs.out
   have hnc116:=zi.out
   have hcz117:=blk3 zg.out
   have y5:0≤(a1:Int):=oD
   have y6:(a1:Int) < ((zc.length:Int):Int):=oD
   obtain⟨yd,zz,zae,zaf,gl100,cl100,HG100⟩:=Kd.R_form zb.out (by omega)
   (first|cases zae|(injection zae with ea_ en_ ec_;(first|subst ea_|(injection ea_ with ea_;subst ea_));subst ec_;clear en_))
   have GB100:=aM zaf
   have GG100:=aM HG100
   clear zaf gl100 HG100
   obtain⟨yw,hf100_0⟩:=Kd.R_celln 0 zb.out (a1:Int) y5 y6
   have HP118:=Kd.R_putg zb.out (a1:Int) a3
   go_wp2_with (first|((with_reducible refine gate_store (t:=3) (p:=111) rfl ?_);refine store_event (t:=3) (p:=111) (v:=?vo_w119) (w1:=(wc.setCell ⟨yd,(a1:Int).toNat,none⟩ (.int .i64 a3))) ?hg ?ho ?hn ?hr ?_;(case ho=>rfl);(case hg=>rfl);(case hn=>rfl);(case hr=>first|(go_simp;done)|(go_simp;rfl));intro za5 hw;have hg:wc.grownBy za5 (some yd):=(by rw [hw];exact HP118.2);have hp_:Kd.R (Kd.int .i64) 3 za5 w.heap.size (fun k_=>some k_≠(u187002:Value).ownBlock) (.slice (some ⟨yd,0,none⟩) zc.length zz) zaa:=(by rw [hw,za1.out];exact HP118.1);clear HP118;replace za:=aM (Kd.R_after (v:=(.slice (some ⟨yd,0,none⟩) zc.length zz)) (v1:=(.slice (some ⟨yd,0,none⟩) zc.length zz)) (ok:=(fun _=>True)) (by(with_reducible repeat(first|apply rA|apply rN|apply rD));exact Kd.R_mono za.out (fun _ hk=>⟨trivial,hk⟩)) hg (.inl rfl));replace zf:=aM (blk_grown (g:=zu) (pK zf.out) hg (Kd.R_ne zb.out zf.out (by decide)));replace ze:=aM (blk_grown (g:=zm) (pK ze.out) hg (Kd.R_ne zb.out ze.out (by decide)));replace zg:=aM (blk_grown (g:=zh) (pK zg.out) hg (Kd.R_ne zb.out zg.out (by decide)));replace zb:=aM (hp_);replace HB:=aM ((by rw [hw];exact below_set (HB.out) GB100.out:Below w.heap.size w za5));clear hg hw hp_;have hcz120:=blk3 zg.out;have hnb121:=zk.out;have hnc121:=zj.out;have hcz122:=blk3 ze.out;obtain⟨yal,yam,yan⟩:=Kd.R_slice za.out;subst yan))
   refine bodyPost_ret (results_ct rfl _ _ zm 44 #[.int .i64 zq,.slice (some ⟨yd,0,none⟩) zc.length zz,.slice yal zd.length yam] (0,0) _ rfl (by exact P3 ze) Try.underlying44 rfl (by kernel_rfl)) rfl ?_
   exact⟨_,_,pE,by(with_reducible repeat(first|apply rA|apply rN|apply rD));exact F3 zb ze (fun _ hk=>hk.1),by(with_reducible repeat(first|apply rA|apply rN|apply rD));exact F3 za ze (fun _ hk=>hk.1.2),qB3 HB zl zp zx⟩
  rw [ip c101] at H
  have y3:=bT c101
  have y4:=nF c101
  clear c101
  by_cases c102:a1 < (zd.length:Int)
  rotate_left
  ·rw [iN c102] at H
   cases H
  rw [ip c102] at H
  have c102b0:=dT c102
  clear c102
  obtain⟨zbe,zau⟩:∃ y_:List Int,y_=(zd.set (a1:Int).toNat 0):=⟨_,rfl⟩
  replace H:(some (zq,zaa,zbe,0))=some (r1,r2,r3,r4):=pH zau H
  have Ny193:=aM zau
  clear zau
  replace H:=oi4 H
  obtain⟨rfl,rfl,rfl,rfl⟩:=H
  have hnb104:=zv.out
  have hnc104:=zo.out
  have hnb105:=zs.out
  have hnc105:=zi.out
  have hcz106:=blk3 zg.out
  have y5:0≤(a1:Int):=oD
  have y6:(a1:Int) < ((zc.length:Int):Int):=oD
  obtain⟨yd,zz,zae,zaf,gl100,cl100,HG100⟩:=Kd.R_form zb.out (by omega)
  (first|cases zae|(injection zae with ea_ en_ ec_;(first|subst ea_|(injection ea_ with ea_;subst ea_));subst ec_;clear en_))
  have GB100:=aM zaf
  have GG100:=aM HG100
  clear zaf gl100 HG100
  obtain⟨yw,hf100_0⟩:=Kd.R_celln 0 zb.out (a1:Int) y5 y6
  have HP107:=Kd.R_putg zb.out (a1:Int) a3
  go_wp2_with (first|((with_reducible refine gate_store (t:=3) (p:=111) rfl ?_);refine store_event (t:=3) (p:=111) (v:=?vo_w108) (w1:=(wc.setCell ⟨yd,(a1:Int).toNat,none⟩ (.int .i64 a3))) ?hg ?ho ?hn ?hr ?_;(case ho=>rfl);(case hg=>rfl);(case hn=>rfl);(case hr=>first|(go_simp;done)|(go_simp;rfl));intro zav hw;have hg:wc.grownBy zav (some yd):=(by rw [hw];exact HP107.2);have hp_:Kd.R (Kd.int .i64) 3 zav w.heap.size (fun k_=>some k_≠(u187002:Value).ownBlock) (.slice (some ⟨yd,0,none⟩) zc.length zz) zaa:=(by rw [hw,za1.out];exact HP107.1);clear HP107;replace za:=aM (Kd.R_after (v:=(.slice (some ⟨yd,0,none⟩) zc.length zz)) (v1:=(.slice (some ⟨yd,0,none⟩) zc.length zz)) (ok:=(fun _=>True)) (by(with_reducible repeat(first|apply rA|apply rN|apply rD));exact Kd.R_mono za.out (fun _ hk=>⟨trivial,hk⟩)) hg (.inl rfl));replace zf:=aM (blk_grown (g:=zu) (pK zf.out) hg (Kd.R_ne zb.out zf.out (by decide)));replace ze:=aM (blk_grown (g:=zm) (pK ze.out) hg (Kd.R_ne zb.out ze.out (by decide)));replace zg:=aM (blk_grown (g:=zh) (pK zg.out) hg (Kd.R_ne zb.out zg.out (by decide)));replace zb:=aM (hp_);replace HB:=aM ((by rw [hw];exact below_set (HB.out) GB100.out:Below w.heap.size w zav));clear hg hw hp_;have hcz109:=blk3 zg.out;have yau:0≤(a1:Int):=oD;have yav:(a1:Int) < ((zd.length:Int):Int):=oD;obtain⟨yl,zah,za2,za3,gl103,cl103,HG103⟩:=Kd.R_form za.out (by omega);(first|cases za2|(injection za2 with ea_ en_ ec_;(first|subst ea_|(injection ea_ with ea_;subst ea_));subst ec_;clear en_));have GB103:=aM za3;have GG103:=aM HG103;clear za3 gl103 HG103;obtain⟨hx103_0,hf103_0⟩:=Kd.R_celln 0 za.out (a1:Int) yau yav;have n_:=aM (Kd.R_mono (ok':=(fun k_=>some k_≠(.slice (some ⟨yd,0,none⟩) zc.length zz:Value).ownBlock)) za.out (fun k_ hk=>hk.2));clear za;have za:=n_;clear n_;obtain⟨hy110_,hz110_⟩:=Kd.R_celln 0 za.out (a1:Int) (of_decide_eq_true pD) (of_decide_eq_true pD);have HP110:=Kd.R_putg za.out (a1:Int) 0)|((with_reducible refine gate_store (t:=3) (p:=117) rfl ?_);refine store_event (t:=3) (p:=117) (v:=?vo_w111) (w1:=(zav.setCell ⟨yl,(a1:Int).toNat,none⟩ (.int .i64 0))) ?hg ?ho ?hn ?hr ?_;(case ho=>rfl);(case hg=>rfl);(case hn=>rfl);(case hr=>first|(go_simp;done)|(go_simp;rfl));intro za6 hw;have hg:zav.grownBy za6 (some yl):=(by rw [hw];exact HP110.2);have hp_:Kd.R (Kd.int .i64) 3 za6 w.heap.size (fun k_=>some k_≠(.slice (some ⟨yd,0,none⟩) zc.length zz:Value).ownBlock) (.slice (some ⟨yl,0,none⟩) zd.length zah) zbe:=(by rw [hw,Ny193.out];exact HP110.1);clear HP110;replace zb:=aM (Kd.R_after (v:=(.slice (some ⟨yl,0,none⟩) zd.length zah)) (v1:=(.slice (some ⟨yl,0,none⟩) zd.length zah)) (ok:=(fun _=>True)) (by(with_reducible repeat(first|apply rA|apply rN|apply rD));exact Kd.R_mono zb.out (fun _ hk=>⟨trivial,hk⟩)) hg (.inl rfl));replace zf:=aM (blk_grown (g:=zu) (pK zf.out) hg (Kd.R_ne za.out zf.out (by decide)));replace ze:=aM (blk_grown (g:=zm) (pK ze.out) hg (Kd.R_ne za.out ze.out (by decide)));replace zg:=aM (blk_grown (g:=zh) (pK zg.out) hg (Kd.R_ne za.out zg.out (by decide)));replace za:=aM (hp_);replace HB:=aM ((by rw [hw];exact below_set (HB.out) GB103.out:Below w.heap.size w za6));clear hg hw hp_;have hcz112:=blk3 zg.out;have hnb113:=zk.out;have hnc113:=zj.out;have hcz114:=blk3 ze.out))
  refine bodyPost_ret (results_ct rfl _ _ zm 44 #[.int .i64 zq,.slice (some ⟨yd,0,none⟩) zc.length zz,.slice (some ⟨yl,0,none⟩) zd.length zah] (0,0) _ rfl (by exact P3 ze) Try.underlying44 rfl (by kernel_rfl)) rfl ?_
  exact⟨_,_,pE,by(with_reducible repeat(first|apply rA|apply rN|apply rD));exact F3 zb ze (fun _ hk=>hk.1.2),by(with_reducible repeat(first|apply rA|apply rN|apply rD));exact F3 za ze (fun _ hk=>hk.1),qB3 HB zl zp zx⟩
 rw [ip c64] at H
 have yak:decide (0 < a2)=true:=decide_eq_true c64
 clear c64
 by_cases c65:0≤a1
 rotate_left
 ·rw [iN c65] at H
  cases H
 rw [ip c65] at H
 have c65b0:=dT c65
 clear c65
 by_cases c66:a1 < (ya.length:Int)
 rotate_left
 ·rw [iN c66] at H
  cases H
 rw [ip c66] at H
 have c66b0:=dT c66
 clear c66
 by_cases c67:a1 < (zc.length:Int)
 rotate_left
 ·rw [iN c67] at H
  cases H
 rw [ip c67] at H
 have c67b0:=dT c67
 clear c67
 obtain⟨z9,zaw⟩:∃ y_:List Int,y_=(zc.set (a1:Int).toNat a3):=⟨_,rfl⟩
 replace H:(if a3=1 then(if a1 < (zd.length:Int)then(some (wrap64 (zq + (wrap64 (a2 * (rd ya a1)))),z9,(zd.set (a1:Int).toNat 0),0))else(none))else(some (wrap64 (zq + (wrap64 (a2 * (rd ya a1)))),z9,zd,0)))=some (r1,r2,r3,r4):=pH zaw H
 have za4:=aM zaw
 clear zaw
 by_cases c69:a3=1
 rotate_left
 ·rw [iN c69] at H
  have yao:=bF c69
  have yap:=nT c69
  replace H:=oi4 H
  obtain⟨rfl,rfl,rfl,rfl⟩:=H
  try go_wp2
  replace zb:=aM (Kd.R_drew zb.out)
  replace za:=aM (Kd.R_drew za.out)
  replace zf:=aM (blk_drew zf.out)
  replace ze:=aM (blk_drew ze.out)
  replace zg:=aM (blk_drew zg.out)
  replace HB:=aM (below_drew1 HB.out)
  obtain⟨yk,⟨⟩,yi,yaw,yax⟩:=zI z7.out a1
  have yp:=zW HB yi
  refine sT 12 [11] (fun w'=>w'.cell? ⟨zh,0,none⟩=some (.int .i64 zq)∧w'.cell? ⟨zh,1,none⟩=some (u187001)∧w'.cell? ⟨zh,2,none⟩=some (u187002)∧w'.cell? ⟨zu,0,none⟩=some (.int .i64 yc)∧w'.cell? ⟨zu,1,none⟩=some (.slice (some yh) yb.length yf)∧w'.cell? ⟨zu,2,none⟩=some (.slice (some yk) ya.length yg)∧w'.cell? (yk.add (a1).toNat)=some (.int .i64 (rd ya a1))) fci.tab17 fci.bits17 ⟨(blk_cell zg.out 0).trans rfl,(blk_cell zg.out 1).trans rfl,(blk_cell zg.out 2).trans rfl,(blk_cell zf.out 0).trans rfl,(blk_cell zf.out 1).trans rfl,(blk_cell zf.out 2).trans rfl,(zW HB yi)⟩ (fun hHeld HT_ HW_=>?_)
  generalize wc.drew=w86 at zb za zf ze zg HB yp hHeld ⊢
  refine pQ 0 96 12 1 HT_ ?_
  refine pQ 2 98 12 5 HT_ ?_
  refine pQ 3 99 12 13 HT_ ?_
  refine pQ 5 101 12 45 HT_ ?_
  refine pU7 1 97 12 47 HT_ HW_ hHeld ?_
  refine pU7 4 100 12 63 HT_ HW_ hHeld ?_
  refine pQ 6 102 12 127 HT_ ?_
  refine pU7 7 103 12 255 HT_ HW_ hHeld ?_
  refine pQ 8 104 12 511 HT_ ?_
  refine pQ 9 105 12 1023 HT_ ?_
  refine pQ 10 106 12 2047 HT_ ?_
  refine last_ (i:=11) (N:=none) (bm 12 4095) rfl rfl (one_of HT_.out (by kernel_rfl)) (by decide) (fun K hK=>?_)
  have hs87:w86.cell? ⟨zh,0,none⟩=some (.int .i64 zq):=(blk_cell zg.out 0).trans rfl
  have hfs87:=blk_frozen zg.out 0
  have hns87_0:=zo.out
  have hns87_1:=zi.out
  have hms87_0:=zv.out
  have hms87_1:=zs.out
  refine skip_ (w1:=?_) (by rfl) rfl ?_ ?_
  rotate_left
  ·go_simp
   rfl
  refine hK.out _ _ ?_
  clear hK K
  refine dN HT_ ?_
  have n0_:Aside0 (Kd.R (Kd.int .i64) 3 (w86.setCell ⟨zh,0,none⟩ (.int .i64 (wrap64 (zq + (wrap64 (a2 * (rd ya a1))))))) w.heap.size (fun k_=>some k_≠(u187002:Value).ownBlock) u187001 zc):=⟨by(with_reducible repeat(first|apply rA|apply rN|apply rD));exact Kd.R_mono (Kd.R_far (p:=⟨zh,0,none⟩) (Kd.R_types zb.out zg.out (by decide)) (fun _ hk=>hk.2) (.int .i64 (wrap64 (zq + (wrap64 (a2 * (rd ya a1))))))) (fun _ hk=>hk.1)⟩
  have n1_:Aside0 (Kd.R (Kd.int .i64) 3 (w86.setCell ⟨zh,0,none⟩ (.int .i64 (wrap64 (zq + (wrap64 (a2 * (rd ya a1))))))) w.heap.size (fun k_=>some k_≠(u187001:Value).ownBlock) u187002 zd):=⟨by(with_reducible repeat(first|apply rA|apply rN|apply rD));exact Kd.R_mono (Kd.R_far (p:=⟨zh,0,none⟩) (Kd.R_types za.out zg.out (by decide)) (fun _ hk=>hk.2) (.int .i64 (wrap64 (zq + (wrap64 (a2 * (rd ya a1))))))) (fun _ hk=>hk.1)⟩
  have n2_:Aside0 ((w86.setCell ⟨zh,0,none⟩ (.int .i64 (wrap64 (zq + (wrap64 (a2 * (rd ya a1))))))).heap[zu]?=some (.cells #[.int .i64 yc,.slice (some yh) yb.length yf,.slice (some yk) ya.length yg] 44 (0,0))):=⟨by(with_reducible repeat(first|apply bN|apply bD|apply bA));refine blk_far ?_ zo.out _;(with_reducible repeat(first|apply bN|apply bD|apply bA));exact zf.out⟩
  have n3_:Aside0 ((w86.setCell ⟨zh,0,none⟩ (.int .i64 (wrap64 (zq + (wrap64 (a2 * (rd ya a1))))))).heap[zm]?=some (.cells #[.int .i64 zy,.slice none 0 0,.slice none 0 0] 44 (0,0))):=⟨by(with_reducible repeat(first|apply bN|apply bD|apply bA));refine blk_far ?_ zi.out _;(with_reducible repeat(first|apply bN|apply bD|apply bA));exact ze.out⟩
  have n4_:Aside0 ((w86.setCell ⟨zh,0,none⟩ (.int .i64 (wrap64 (zq + (wrap64 (a2 * (rd ya a1))))))).heap[zh]?=some (.cells #[.int .i64 (wrap64 (zq + (wrap64 (a2 * (rd ya a1))))),u187001,u187002] 44 (0,0))):=⟨by(with_reducible repeat(first|apply bN|apply bD|apply bA));refine blk_put (cs:=#[.int .i64 zq,u187001,u187002]) ?_ 0 _ rfl;(with_reducible repeat(first|apply bN|apply bD|apply bA));exact zg.out⟩
  have n5_:Aside0 (Below w.heap.size w (w86.setCell ⟨zh,0,none⟩ (.int .i64 (wrap64 (zq + (wrap64 (a2 * (rd ya a1)))))))):=⟨qB3 HB zl zp zx⟩
  (try clear zb)
  (try clear za)
  (try clear zf)
  (try clear ze)
  (try clear zg)
  (try clear HB)
  generalize (w86.setCell ⟨zh,0,none⟩ (.int .i64 (wrap64 (zq + (wrap64 (a2 * (rd ya a1)))))))=w88 at n0_ n1_ n2_ n3_ n4_ n5_ ⊢
  have zb:=n0_
  have za:=n1_
  have zf:=n2_
  have ze:=n3_
  have zg:=n4_
  have HB:=n5_
  clear n0_ n1_ n2_ n3_ n4_ n5_
  have hnb89:=zv.out
  have hnc89:=zo.out
  have hnb90:=zs.out
  have hnc90:=zi.out
  have hcz91:=blk3 zg.out
  have p68:0≤(a1:Int):=oD
  have q68:(a1:Int) < ((zc.length:Int):Int):=oD
  obtain⟨ye,z2,zax,zay,gl68,cl68,HG68⟩:=Kd.R_form zb.out (by omega)
  (first|cases zax|(injection zax with ea_ en_ ec_;(first|subst ea_|(injection ea_ with ea_;subst ea_));subst ec_;clear en_))
  have GB68:=aM zay
  have GG68:=aM HG68
  clear zay gl68 HG68
  obtain⟨y7,hf68_0⟩:=Kd.R_celln 0 zb.out (a1:Int) p68 q68
  obtain⟨hy92_,hz92_⟩:=Kd.R_celln 0 zb.out (a1:Int) (of_decide_eq_true pD) (of_decide_eq_true pD)
  have HP92:=Kd.R_putg zb.out (a1:Int) a3
  try go_wp2_with (first|((with_reducible refine gate_store (t:=3) (p:=111) rfl ?_);refine store_event (t:=3) (p:=111) (v:=?vo_w93) (w1:=(w88.setCell ⟨ye,(a1:Int).toNat,none⟩ (.int .i64 a3))) ?hg ?ho ?hn ?hr ?_;(case ho=>rfl);(case hg=>rfl);(case hn=>rfl);(case hr=>first|(go_simp;done)|(go_simp;rfl));intro w93 hw;have hg:w88.grownBy w93 (some ye):=(by rw [hw];exact HP92.2);have hp_:Kd.R (Kd.int .i64) 3 w93 w.heap.size (fun k_=>some k_≠(u187002:Value).ownBlock) (.slice (some ⟨ye,0,none⟩) zc.length z2) z9:=(by rw [hw,za4.out];exact HP92.1);clear HP92;replace za:=aM (Kd.R_after (v:=(.slice (some ⟨ye,0,none⟩) zc.length z2)) (v1:=(.slice (some ⟨ye,0,none⟩) zc.length z2)) (ok:=(fun _=>True)) (by(with_reducible repeat(first|apply rA|apply rN|apply rD));exact Kd.R_mono za.out (fun _ hk=>⟨trivial,hk⟩)) hg (.inl rfl));replace zf:=aM (blk_grown (g:=zu) (pK zf.out) hg (Kd.R_ne zb.out zf.out (by decide)));replace ze:=aM (blk_grown (g:=zm) (pK ze.out) hg (Kd.R_ne zb.out ze.out (by decide)));replace zg:=aM (blk_grown (g:=zh) (pK zg.out) hg (Kd.R_ne zb.out zg.out (by decide)));replace zb:=aM (hp_);replace HB:=aM ((by rw [hw];exact below_set (HB.out) GB68.out:Below w.heap.size w w93));clear hg hw hp_;have hcz94:=blk3 zg.out;have hnb95:=zk.out;have hnc95:=zj.out;have hcz96:=blk3 ze.out;obtain⟨za7,za8,ya0⟩:=Kd.R_slice za.out;subst ya0))
  refine bodyPost_ret (results_ct rfl _ _ zm 44 #[.int .i64 (wrap64 (zq + (wrap64 (a2 * (rd ya a1))))),.slice (some ⟨ye,0,none⟩) zc.length z2,.slice za7 zd.length za8] (0,0) _ rfl (by exact P3 ze) Try.underlying44 rfl (by kernel_rfl)) rfl ?_
  exact⟨_,_,pE,by(with_reducible repeat(first|apply rA|apply rN|apply rD));exact Kd.R_mono (Kd.R_far (p:=⟨zm,2,none⟩) (Kd.R_far (p:=⟨zm,1,none⟩) (Kd.R_far (p:=⟨zm,0,none⟩) (Kd.R_types zb.out ze.out (by decide)) (fun _ hk=>hk.2) (.int .i64 (wrap64 (zq + (wrap64 (a2 * (rd ya a1))))))) (fun _ hk=>hk.2) (.slice (some ⟨ye,0,none⟩) zc.length z2)) (fun _ hk=>hk.2) (.slice za7 zd.length za8)) (fun _ hk=>hk.1),by(with_reducible repeat(first|apply rA|apply rN|apply rD));exact Kd.R_mono (Kd.R_far (p:=⟨zm,2,none⟩) (Kd.R_far (p:=⟨zm,1,none⟩) (Kd.R_far (p:=⟨zm,0,none⟩) (Kd.R_types za.out ze.out (by decide)) (fun _ hk=>hk.2) (.int .i64 (wrap64 (zq + (wrap64 (a2 * (rd ya a1))))))) (fun _ hk=>hk.2) (.slice (some ⟨ye,0,none⟩) zc.length z2)) (fun _ hk=>hk.2) (.slice za7 zd.length za8)) (fun _ hk=>hk.1.2),qB3 HB zl zp zx⟩
 rw [ip c69] at H
 have yao:=bT c69
 have yap:=nF c69
 clear c69
 by_cases c70:a1 < (zd.length:Int)
 rotate_left
 ·rw [iN c70] at H
  cases H
 rw [ip c70] at H
 have c70b0:=dT c70
 clear c70
 obtain⟨zbf,zaz⟩:∃ y_:List Int,y_=(zd.set (a1:Int).toNat 0):=⟨_,rfl⟩
 replace H:(some (wrap64 (zq + (wrap64 (a2 * (rd ya a1)))),z9,zbf,0))=some (r1,r2,r3,r4):=pH zaz H
 have Ny191:=aM zaz
 clear zaz
 replace H:=oi4 H
 obtain⟨rfl,rfl,rfl,rfl⟩:=H
 try go_wp2
 replace zb:=aM (Kd.R_drew zb.out)
 replace za:=aM (Kd.R_drew za.out)
 replace zf:=aM (blk_drew zf.out)
 replace ze:=aM (blk_drew ze.out)
 replace zg:=aM (blk_drew zg.out)
 replace HB:=aM (below_drew1 HB.out)
 obtain⟨yk,⟨⟩,yi,yaw,yax⟩:=zI z7.out a1
 have yp:=zW HB yi
 refine sT 12 [11] (fun w'=>w'.cell? ⟨zh,0,none⟩=some (.int .i64 zq)∧w'.cell? ⟨zh,1,none⟩=some (u187001)∧w'.cell? ⟨zh,2,none⟩=some (u187002)∧w'.cell? ⟨zu,0,none⟩=some (.int .i64 yc)∧w'.cell? ⟨zu,1,none⟩=some (.slice (some yh) yb.length yf)∧w'.cell? ⟨zu,2,none⟩=some (.slice (some yk) ya.length yg)∧w'.cell? (yk.add (a1).toNat)=some (.int .i64 (rd ya a1))) fci.tab17 fci.bits17 ⟨(blk_cell zg.out 0).trans rfl,(blk_cell zg.out 1).trans rfl,(blk_cell zg.out 2).trans rfl,(blk_cell zf.out 0).trans rfl,(blk_cell zf.out 1).trans rfl,(blk_cell zf.out 2).trans rfl,(zW HB yi)⟩ (fun hHeld HT_ HW_=>?_)
 generalize wc.drew=w72 at zb za zf ze zg HB yp hHeld ⊢
 refine pQ 0 96 12 1 HT_ ?_
 refine pQ 2 98 12 5 HT_ ?_
 refine pQ 3 99 12 13 HT_ ?_
 refine pQ 5 101 12 45 HT_ ?_
 refine pU7 1 97 12 47 HT_ HW_ hHeld ?_
 refine pU7 4 100 12 63 HT_ HW_ hHeld ?_
 refine pQ 6 102 12 127 HT_ ?_
 refine pU7 7 103 12 255 HT_ HW_ hHeld ?_
 refine pQ 8 104 12 511 HT_ ?_
 refine pQ 9 105 12 1023 HT_ ?_
 refine pQ 10 106 12 2047 HT_ ?_
 refine last_ (i:=11) (N:=none) (bm 12 4095) rfl rfl (one_of HT_.out (by kernel_rfl)) (by decide) (fun K hK=>?_)
 have hs73:w72.cell? ⟨zh,0,none⟩=some (.int .i64 zq):=(blk_cell zg.out 0).trans rfl
 have hfs73:=blk_frozen zg.out 0
 have hns73_0:=zo.out
 have hns73_1:=zi.out
 have hms73_0:=zv.out
 have hms73_1:=zs.out
 refine skip_ (w1:=?_) (by rfl) rfl ?_ ?_
 rotate_left
 ·go_simp
  rfl
 refine hK.out _ _ ?_
 clear hK K
 refine dN HT_ ?_
 have n0_:Aside0 (Kd.R (Kd.int .i64) 3 (w72.setCell ⟨zh,0,none⟩ (.int .i64 (wrap64 (zq + (wrap64 (a2 * (rd ya a1))))))) w.heap.size (fun k_=>some k_≠(u187002:Value).ownBlock) u187001 zc):=⟨by(with_reducible repeat(first|apply rA|apply rN|apply rD));exact Kd.R_mono (Kd.R_far (p:=⟨zh,0,none⟩) (Kd.R_types zb.out zg.out (by decide)) (fun _ hk=>hk.2) (.int .i64 (wrap64 (zq + (wrap64 (a2 * (rd ya a1))))))) (fun _ hk=>hk.1)⟩
 have n1_:Aside0 (Kd.R (Kd.int .i64) 3 (w72.setCell ⟨zh,0,none⟩ (.int .i64 (wrap64 (zq + (wrap64 (a2 * (rd ya a1))))))) w.heap.size (fun k_=>some k_≠(u187001:Value).ownBlock) u187002 zd):=⟨by(with_reducible repeat(first|apply rA|apply rN|apply rD));exact Kd.R_mono (Kd.R_far (p:=⟨zh,0,none⟩) (Kd.R_types za.out zg.out (by decide)) (fun _ hk=>hk.2) (.int .i64 (wrap64 (zq + (wrap64 (a2 * (rd ya a1))))))) (fun _ hk=>hk.1)⟩
 have n2_:Aside0 ((w72.setCell ⟨zh,0,none⟩ (.int .i64 (wrap64 (zq + (wrap64 (a2 * (rd ya a1))))))).heap[zu]?=some (.cells #[.int .i64 yc,.slice (some yh) yb.length yf,.slice (some yk) ya.length yg] 44 (0,0))):=⟨by(with_reducible repeat(first|apply bN|apply bD|apply bA));refine blk_far ?_ zo.out _;(with_reducible repeat(first|apply bN|apply bD|apply bA));exact zf.out⟩
 have n3_:Aside0 ((w72.setCell ⟨zh,0,none⟩ (.int .i64 (wrap64 (zq + (wrap64 (a2 * (rd ya a1))))))).heap[zm]?=some (.cells #[.int .i64 zy,.slice none 0 0,.slice none 0 0] 44 (0,0))):=⟨by(with_reducible repeat(first|apply bN|apply bD|apply bA));refine blk_far ?_ zi.out _;(with_reducible repeat(first|apply bN|apply bD|apply bA));exact ze.out⟩
 have n4_:Aside0 ((w72.setCell ⟨zh,0,none⟩ (.int .i64 (wrap64 (zq + (wrap64 (a2 * (rd ya a1))))))).heap[zh]?=some (.cells #[.int .i64 (wrap64 (zq + (wrap64 (a2 * (rd ya a1))))),u187001,u187002] 44 (0,0))):=⟨by(with_reducible repeat(first|apply bN|apply bD|apply bA));refine blk_put (cs:=#[.int .i64 zq,u187001,u187002]) ?_ 0 _ rfl;(with_reducible repeat(first|apply bN|apply bD|apply bA));exact zg.out⟩
 have n5_:Aside0 (Below w.heap.size w (w72.setCell ⟨zh,0,none⟩ (.int .i64 (wrap64 (zq + (wrap64 (a2 * (rd ya a1)))))))):=⟨qB3 HB zl zp zx⟩
 (try clear zb)
 (try clear za)
 (try clear zf)
 (try clear ze)
 (try clear zg)
 (try clear HB)
 generalize (w72.setCell ⟨zh,0,none⟩ (.int .i64 (wrap64 (zq + (wrap64 (a2 * (rd ya a1)))))))=w74 at n0_ n1_ n2_ n3_ n4_ n5_ ⊢
 have zb:=n0_
 have za:=n1_
 have zf:=n2_
 have ze:=n3_
 have zg:=n4_
 have HB:=n5_
 clear n0_ n1_ n2_ n3_ n4_ n5_
 have hnb75:=zv.out
 have hnc75:=zo.out
 have hnb76:=zs.out
 have hnc76:=zi.out
 have hcz77:=blk3 zg.out
 have p68:0≤(a1:Int):=oD
 have q68:(a1:Int) < ((zc.length:Int):Int):=oD
 obtain⟨ye,z2,zax,zay,gl68,cl68,HG68⟩:=Kd.R_form zb.out (by omega)
 (first|cases zax|(injection zax with ea_ en_ ec_;(first|subst ea_|(injection ea_ with ea_;subst ea_));subst ec_;clear en_))
 have GB68:=aM zay
 have GG68:=aM HG68
 clear zay gl68 HG68
 obtain⟨y7,hf68_0⟩:=Kd.R_celln 0 zb.out (a1:Int) p68 q68
 obtain⟨hy78_,hz78_⟩:=Kd.R_celln 0 zb.out (a1:Int) (of_decide_eq_true pD) (of_decide_eq_true pD)
 have HP78:=Kd.R_putg zb.out (a1:Int) a3
 try go_wp2_with (first|((with_reducible refine gate_store (t:=3) (p:=111) rfl ?_);refine store_event (t:=3) (p:=111) (v:=?vo_w79) (w1:=(w74.setCell ⟨ye,(a1:Int).toNat,none⟩ (.int .i64 a3))) ?hg ?ho ?hn ?hr ?_;(case ho=>rfl);(case hg=>rfl);(case hn=>rfl);(case hr=>first|(go_simp;done)|(go_simp;rfl));intro w79 hw;have hg:w74.grownBy w79 (some ye):=(by rw [hw];exact HP78.2);have hp_:Kd.R (Kd.int .i64) 3 w79 w.heap.size (fun k_=>some k_≠(u187002:Value).ownBlock) (.slice (some ⟨ye,0,none⟩) zc.length z2) z9:=(by rw [hw,za4.out];exact HP78.1);clear HP78;replace za:=aM (Kd.R_after (v:=(.slice (some ⟨ye,0,none⟩) zc.length z2)) (v1:=(.slice (some ⟨ye,0,none⟩) zc.length z2)) (ok:=(fun _=>True)) (by(with_reducible repeat(first|apply rA|apply rN|apply rD));exact Kd.R_mono za.out (fun _ hk=>⟨trivial,hk⟩)) hg (.inl rfl));replace zf:=aM (blk_grown (g:=zu) (pK zf.out) hg (Kd.R_ne zb.out zf.out (by decide)));replace ze:=aM (blk_grown (g:=zm) (pK ze.out) hg (Kd.R_ne zb.out ze.out (by decide)));replace zg:=aM (blk_grown (g:=zh) (pK zg.out) hg (Kd.R_ne zb.out zg.out (by decide)));replace zb:=aM (hp_);replace HB:=aM ((by rw [hw];exact below_set (HB.out) GB68.out:Below w.heap.size w w79));clear hg hw hp_;have hcz80:=blk3 zg.out;have p71:0≤(a1:Int):=oD;have q71:(a1:Int) < ((zd.length:Int):Int):=oD;obtain⟨yq,zal,zbg,zbh,gl71,cl71,HG71⟩:=Kd.R_form za.out (by omega);(first|cases zbg|(injection zbg with ea_ en_ ec_;(first|subst ea_|(injection ea_ with ea_;subst ea_));subst ec_;clear en_));have GB71:=aM zbh;have GG71:=aM HG71;clear zbh gl71 HG71;obtain⟨hx71_0,hf71_0⟩:=Kd.R_celln 0 za.out (a1:Int) p71 q71;have n_:=aM (Kd.R_mono (ok':=(fun k_=>some k_≠(.slice (some ⟨ye,0,none⟩) zc.length z2:Value).ownBlock)) za.out (fun k_ hk=>hk.2));clear za;have za:=n_;clear n_;obtain⟨hy81_,hz81_⟩:=Kd.R_celln 0 za.out (a1:Int) (of_decide_eq_true pD) (of_decide_eq_true pD);have HP81:=Kd.R_putg za.out (a1:Int) 0)|((with_reducible refine gate_store (t:=3) (p:=117) rfl ?_);refine store_event (t:=3) (p:=117) (v:=?vo_w82) (w1:=(w79.setCell ⟨yq,(a1:Int).toNat,none⟩ (.int .i64 0))) ?hg ?ho ?hn ?hr ?_;(case ho=>rfl);(case hg=>rfl);(case hn=>rfl);(case hr=>first|(go_simp;done)|(go_simp;rfl));intro w82 hw;have hg:w79.grownBy w82 (some yq):=(by rw [hw];exact HP81.2);have hp_:Kd.R (Kd.int .i64) 3 w82 w.heap.size (fun k_=>some k_≠(.slice (some ⟨ye,0,none⟩) zc.length z2:Value).ownBlock) (.slice (some ⟨yq,0,none⟩) zd.length zal) zbf:=(by rw [hw,Ny191.out];exact HP81.1);clear HP81;replace zb:=aM (Kd.R_after (v:=(.slice (some ⟨yq,0,none⟩) zd.length zal)) (v1:=(.slice (some ⟨yq,0,none⟩) zd.length zal)) (ok:=(fun _=>True)) (by(with_reducible repeat(first|apply rA|apply rN|apply rD));exact Kd.R_mono zb.out (fun _ hk=>⟨trivial,hk⟩)) hg (.inl rfl));replace zf:=aM (blk_grown (g:=zu) (pK zf.out) hg (Kd.R_ne za.out zf.out (by decide)));replace ze:=aM (blk_grown (g:=zm) (pK ze.out) hg (Kd.R_ne za.out ze.out (by decide)));replace zg:=aM (blk_grown (g:=zh) (pK zg.out) hg (Kd.R_ne za.out zg.out (by decide)));replace za:=aM (hp_);replace HB:=aM ((by rw [hw];exact below_set (HB.out) GB71.out:Below w.heap.size w w82));clear hg hw hp_;have hcz83:=blk3 zg.out;have hnb84:=zk.out;have hnc84:=zj.out;have hcz85:=blk3 ze.out))
 refine bodyPost_ret (results_ct rfl _ _ zm 44 #[.int .i64 (wrap64 (zq + (wrap64 (a2 * (rd ya a1))))),.slice (some ⟨ye,0,none⟩) zc.length z2,.slice (some ⟨yq,0,none⟩) zd.length zal] (0,0) _ rfl (by exact P3 ze) Try.underlying44 rfl (by kernel_rfl)) rfl ?_
 exact⟨_,_,pE,by(with_reducible repeat(first|apply rA|apply rN|apply rD));exact Kd.R_mono (Kd.R_far (p:=⟨zm,2,none⟩) (Kd.R_far (p:=⟨zm,1,none⟩) (Kd.R_far (p:=⟨zm,0,none⟩) (Kd.R_types zb.out ze.out (by decide)) (fun _ hk=>hk.2) (.int .i64 (wrap64 (zq + (wrap64 (a2 * (rd ya a1))))))) (fun _ hk=>hk.2) (.slice (some ⟨ye,0,none⟩) zc.length z2)) (fun _ hk=>hk.2) (.slice (some ⟨yq,0,none⟩) zd.length zal)) (fun _ hk=>hk.1.2),by(with_reducible repeat(first|apply rA|apply rN|apply rD));exact Kd.R_mono (Kd.R_far (p:=⟨zm,2,none⟩) (Kd.R_far (p:=⟨zm,1,none⟩) (Kd.R_far (p:=⟨zm,0,none⟩) (Kd.R_types za.out ze.out (by decide)) (fun _ hk=>hk.2) (.int .i64 (wrap64 (zq + (wrap64 (a2 * (rd ya a1))))))) (fun _ hk=>hk.2) (.slice (some ⟨ye,0,none⟩) zc.length z2)) (fun _ hk=>hk.2) (.slice (some ⟨yq,0,none⟩) zd.length zal)) (fun _ hk=>hk.1),qB3 HB zl zp zx⟩
def fbk.f (k:Nat) (a0:Int) (ye:Int) (yf:Int) (yg:Int) (yh:Int) (yo:Int) (yp:Int) (yq:Int) (yr:Int) (ys:Bool) (yd:List Int) (yc:Int) (ya:List Int) (yb:List Int):Option (Int×List Int×List Int×Int):=if a0=33 then((fcf.f k yc ya yb yd).bind fun bt250=>(some (bt250.1,bt250.2.1,bt250.2.2.1,bt250.2.2.2)))else(if a0=34 then((fce.f k yc ya yb yd).bind fun bt258=>(some (bt258.1,bt258.2.1,bt258.2.2.1,bt258.2.2.2)))else(if a0=35 then((fci.f k yc ya yb ye yf yg yh).bind fun bt266=>(some (bt266.1,bt266.2.1,bt266.2.2.1,bt266.2.2.2)))else(if a0=36 then((fcc.f k yc ya yb yd).bind fun bt274=>(some (bt274.1,bt274.2.1,bt274.2.2.1,bt274.2.2.2)))else(if a0=37 then((fcd.f k yc ya yb ye).bind fun bt282=>(some (bt282.1,bt282.2.1,bt282.2.2.1,bt282.2.2.2)))else(some (0,([]:List Int),([]:List Int),14))))))
theorem fbk.calls (k:Nat) (a0:Int) (ye:Int) (yf:Int) (yg:Int) (yh:Int) (yo:Int) (yp:Int) (yq:Int) (yr:Int)(ys:Bool)(ym:Option Addr)(yn:Nat)(yd:List Int) (yc:Int)(yi:Option Addr)(yj:Nat)(ya:List Int)(yk:Option Addr)(yl:Nat)(yb:List Int) (r1:Int)(r2:List Int)(r3:List Int) (r4:Int)(w:World)(yt:Kd.C (Kd.int .i64) w ym yd.length yd)(yu:yd.length≤yn)(yv:Kd.C (Kd.int .i64) w yi ya.length ya)(yw:ya.length≤yj)(yx:Kd.C (Kd.int .i64) w yk yb.length yb)(yy:yb.length≤yl)(h:fbk.f k a0 ye yf yg yh yo yp yq yr ys yd yc ya yb=some (r1,r2,r3,r4)) :
  Calls Try.prog 18 #[.int .i64 a0,.agg #[.int .i64 ye,.int .i64 yf,.int .i64 yg,.int .i64 yh,.int .i64 yo,.int .i64 yp,.int .i64 yq,.int .i64 yr,.bool ys,.slice ym yd.length yn],.agg #[.int .i64 yc,.slice yi ya.length yj,.slice yk yb.length yl]] w fun e w'=>∃ v1_ v2_:Value,e=.returned (.tuple #[.agg #[.int .i64 r1,v1_,v2_],.int .i64 r4])∧Kd.R (Kd.int .i64) 3 w' w.heap.size (fun k_=>some k_≠(v2_:Value).ownBlock) v1_ r2∧Kd.R (Kd.int .i64) 3 w' w.heap.size (fun k_=>some k_≠(v1_:Value).ownBlock) v2_ r3∧Below w.heap.size w w':=by
 have hu24:=Try.underlying24
 have hu44:=Try.underlying44
 have zw:=aM yt
 have zx:=aM yu
 clear yt yu
 have zq:=aM yv
 have zr:=aM yw
 clear yv yw
 have zs:=aM yx
 have zt:=aM yy
 clear yx yy
 have HB:=aM (Below.refl w.heap.size w)
 have H:(if a0=33 then((fcf.f k yc ya yb yd).bind fun bt250=>(some (bt250.1,bt250.2.1,bt250.2.2.1,bt250.2.2.2)))else(if a0=34 then((fce.f k yc ya yb yd).bind fun bt258=>(some (bt258.1,bt258.2.1,bt258.2.2.1,bt258.2.2.2)))else(if a0=35 then((fci.f k yc ya yb ye yf yg yh).bind fun bt266=>(some (bt266.1,bt266.2.1,bt266.2.2.1,bt266.2.2.2)))else(if a0=36 then((fcc.f k yc ya yb yd).bind fun bt274=>(some (bt274.1,bt274.2.1,bt274.2.2.1,bt274.2.2.2)))else(if a0=37 then((fcd.f k yc ya yb ye).bind fun bt282=>(some (bt282.1,bt282.2.1,bt282.2.2.1,bt282.2.2.2)))else(some (0,([]:List Int),([]:List Int),14)))))))=some (r1,r2,r3,r4):=h
 clear h
 by_cases c4:a0=33
 ·rw [ip c4] at H
  have y7:=bT c4
  have y8:=nF c4
  clear c4
  replace H:=oB H
  obtain⟨⟨z8,z9,zaa,t257⟩,A50,H⟩:=H
  try dsimp only at H
  have A5:=aM A50
  clear A50
  replace H:=oi4 H
  obtain⟨rfl,rfl,rfl,rfl⟩:=H
  go_enter Try.func18,Try.ntmps18
  go_wp2_with (first|((with_reducible refine gD 4 rfl ?_);refine bX 4 24 (aT ye yf yg yh yo yp yq yr ys ym yd.length yn) ?_;intro zu hg w6 hbox hb;have za:=aM (hbox);have zm:=gE (w:=w) hg (qB HB);have zb:=zm;replace HB:=bS (qB HB) hb;clear hb hbox hg)|((with_reducible refine gD 5 rfl ?_);refine bX 5 44 #[.int .i64 yc,.slice yi ya.length yj,.slice yk yb.length yl] ?_;intro zv hg w7 hbox hb;have zc:=aM (hbox);have zn:=gE (w:=w) hg (qB1 HB zb);have zd:=zn;replace HB:=bS (qB1 HB zb) hb;have zk:=nL hg za;have zl:=nG hg za;replace za:=bK za hb;clear hb hbox hg)|((with_reducible refine gD 6 rfl ?_);refine bX 6 44 #[.int .i64 0,.slice none 0 0,.slice none 0 0] ?_;intro zo hg w8 hbox hb;have ze:=aM (hbox);have zp:=gE (w:=w) hg (qB2 HB zb zd);have zj:=zp;replace HB:=bS (qB2 HB zb zd) hb;have zf:=nL hg za;have zg:=nG hg za;replace za:=bK za hb;have zh:=nL hg zc;have zi:=nG hg zc;replace zc:=bK zc hb;clear hb hbox hg;have hnb9:=zl.out;have hnc9:=zk.out;have hnb10:=zh.out;have hnc10:=zi.out;have hcz11:=blk3 zc.out;have hnb12:=zf.out;have hnc12:=zg.out;have hcz13:=blk10 za.out)|((with_reducible refine gC 43 rfl ?_);refine gL 14 Try.func43 #[.agg #[.int .i64 yc,.slice yi ya.length yj,.slice yk yb.length yl],.slice ym yd.length yn] ?_;(with_reducible refine(fcf.calls k yc _ _ ya _ _ yb _ _ yd z8 z9 zaa t257 _ ?s1 zr.out ?s3 zt.out ?s5 zx.out A5.out).mono ?_);(case s1=>exact sC zq HB);(case s3=>exact sC zs HB);(case s5=>exact sC zw HB);rintro e w14 ⟨v252,v255,rfl,ho0,ho1,hb⟩;refine⟨_,rfl,?_⟩;have zy:=aM (Kd.R_lower ho0 (below_size (qB3 HB zb zd zj)));have zz:=aM (Kd.R_lower ho1 (below_size (qB3 HB zb zd zj)));replace za:=bK za hb;replace zc:=bK zc hb;replace ze:=bK ze hb;replace HB:=bS (qB3 HB zb zd zj) hb;(try clear hb);(try clear hk);(try clear hi);(try clear ho0);(try clear ho1);have hcz15:=blk3 ze.out;obtain⟨y9,yaa,yab⟩:=Kd.R_slice zy.out;subst yab;obtain⟨yac,yad,yae⟩:=Kd.R_slice zz.out;subst yae))
  refine bodyPost_ret (results_ct rfl _ _ zo 44 #[.int .i64 z8,.slice y9 z9.length yaa,.slice yac zaa.length yad] (0,0) _ rfl (by exact P3 ze) Try.underlying44 rfl (by kernel_rfl)) rfl ?_
  exact⟨_,_,pE,by(with_reducible repeat(first|apply rA|apply rN|apply rD));exact F3 zy ze (fun _ hk=>hk.1),by(with_reducible repeat(first|apply rA|apply rN|apply rD));exact F3 zz ze (fun _ hk=>hk.1),qB3 HB zb zd zj⟩
 rw [iN c4] at H
 have y7:=bF c4
 have y8:=nT c4
 by_cases c18:a0=34
 ·rw [ip c18] at H
  have yz:=bT c18
  have y0:=nF c18
  clear c18
  replace H:=oB H
  obtain⟨⟨zab,zac,zad,t265⟩,zae,H⟩:=H
  try dsimp only at H
  have A19:=aM zae
  clear zae
  replace H:=oi4 H
  obtain⟨rfl,rfl,rfl,rfl⟩:=H
  go_enter Try.func18,Try.ntmps18
  go_wp2_with (first|((with_reducible refine gD 4 rfl ?_);refine bX 4 24 (aT ye yf yg yh yo yp yq yr ys ym yd.length yn) ?_;intro zu hg w20 hbox hb;have za:=aM (hbox);have zm:=gE (w:=w) hg (qB HB);have zb:=zm;replace HB:=bS (qB HB) hb;clear hb hbox hg)|((with_reducible refine gD 5 rfl ?_);refine bX 5 44 #[.int .i64 yc,.slice yi ya.length yj,.slice yk yb.length yl] ?_;intro zv hg w21 hbox hb;have zc:=aM (hbox);have zn:=gE (w:=w) hg (qB1 HB zb);have zd:=zn;replace HB:=bS (qB1 HB zb) hb;have zk:=nL hg za;have zl:=nG hg za;replace za:=bK za hb;clear hb hbox hg)|((with_reducible refine gD 6 rfl ?_);refine bX 6 44 #[.int .i64 0,.slice none 0 0,.slice none 0 0] ?_;intro zo hg w22 hbox hb;have ze:=aM (hbox);have zp:=gE (w:=w) hg (qB2 HB zb zd);have zj:=zp;replace HB:=bS (qB2 HB zb zd) hb;have zf:=nL hg za;have zg:=nG hg za;replace za:=bK za hb;have zh:=nL hg zc;have zi:=nG hg zc;replace zc:=bK zc hb;clear hb hbox hg;have hnb23:=zl.out;have hnc23:=zk.out;have hnb24:=zh.out;have hnc24:=zi.out;have hcz25:=blk3 zc.out;have hnb26:=zf.out;have hnc26:=zg.out;have hcz27:=blk10 za.out)|((with_reducible refine gC 44 rfl ?_);refine gL 22 Try.func44 #[.agg #[.int .i64 yc,.slice yi ya.length yj,.slice yk yb.length yl],.slice ym yd.length yn] ?_;(with_reducible refine(fce.calls k yc _ _ ya _ _ yb _ _ yd zab zac zad t265 _ ?s1 zr.out ?s3 zt.out ?s5 zx.out A19.out).mono ?_);(case s1=>exact sC zq HB);(case s3=>exact sC zs HB);(case s5=>exact sC zw HB);rintro e w28 ⟨v260,v263,rfl,ho0,ho1,hb⟩;refine⟨_,rfl,?_⟩;have z0:=aM (Kd.R_lower ho0 (below_size (qB3 HB zb zd zj)));have z1:=aM (Kd.R_lower ho1 (below_size (qB3 HB zb zd zj)));replace za:=bK za hb;replace zc:=bK zc hb;replace ze:=bK ze hb;replace HB:=bS (qB3 HB zb zd zj) hb;(try clear hb);(try clear hk);(try clear hi);(try clear ho0);(try clear ho1);have hcz29:=blk3 ze.out;obtain⟨yaf,yag,yah⟩:=Kd.R_slice z0.out;subst yah;obtain⟨yai,yaj,yak⟩:=Kd.R_slice z1.out;subst yak))
  refine bodyPost_ret (results_ct rfl _ _ zo 44 #[.int .i64 zab,.slice yaf zac.length yag,.slice yai zad.length yaj] (0,0) _ rfl (by exact P3 ze) Try.underlying44 rfl (by kernel_rfl)) rfl ?_
  exact⟨_,_,pE,by(with_reducible repeat(first|apply rA|apply rN|apply rD));exact F3 z0 ze (fun _ hk=>hk.1),by(with_reducible repeat(first|apply rA|apply rN|apply rD));exact F3 z1 ze (fun _ hk=>hk.1),qB3 HB zb zd zj⟩
 rw [iN c18] at H
 have yz:=bF c18
 have y0:=nT c18
 by_cases c32:a0=35
 ·rw [ip c32] at H
  have y1:=bT c32
  have y2:=nF c32
  clear c32
  replace H:=oB H
  obtain⟨⟨zaf,zag,zah,t273⟩,zai,H⟩:=H
  try dsimp only at H
  have A33:=aM zai
  clear zai
  replace H:=oi4 H
  obtain⟨rfl,rfl,rfl,rfl⟩:=H
  go_enter Try.func18,Try.ntmps18
  go_wp2_with (first|((with_reducible refine gD 4 rfl ?_);refine bX 4 24 (aT ye yf yg yh yo yp yq yr ys ym yd.length yn) ?_;intro zu hg w34 hbox hb;have za:=aM (hbox);have zm:=gE (w:=w) hg (qB HB);have zb:=zm;replace HB:=bS (qB HB) hb;clear hb hbox hg)|((with_reducible refine gD 5 rfl ?_);refine bX 5 44 #[.int .i64 yc,.slice yi ya.length yj,.slice yk yb.length yl] ?_;intro zv hg w35 hbox hb;have zc:=aM (hbox);have zn:=gE (w:=w) hg (qB1 HB zb);have zd:=zn;replace HB:=bS (qB1 HB zb) hb;have zk:=nL hg za;have zl:=nG hg za;replace za:=bK za hb;clear hb hbox hg)|((with_reducible refine gD 6 rfl ?_);refine bX 6 44 #[.int .i64 0,.slice none 0 0,.slice none 0 0] ?_;intro zo hg w36 hbox hb;have ze:=aM (hbox);have zp:=gE (w:=w) hg (qB2 HB zb zd);have zj:=zp;replace HB:=bS (qB2 HB zb zd) hb;have zf:=nL hg za;have zg:=nG hg za;replace za:=bK za hb;have zh:=nL hg zc;have zi:=nG hg zc;replace zc:=bK zc hb;clear hb hbox hg;have hnb37:=zl.out;have hnc37:=zk.out;have hnb38:=zh.out;have hnc38:=zi.out;have hcz39:=blk3 zc.out;have hnb40:=zf.out;have hnc40:=zg.out;have hcz41:=blk10 za.out)|((with_reducible refine gC 45 rfl ?_);refine gL 36 Try.func45 #[.agg #[.int .i64 yc,.slice yi ya.length yj,.slice yk yb.length yl],.int .i64 ye,.int .i64 yf,.int .i64 yg,.int .i64 yh] ?_;(with_reducible refine(fci.calls k yc _ _ ya _ _ yb ye yf yg yh zaf zag zah t273 _ ?s1 zr.out ?s3 zt.out A33.out).mono ?_);(case s1=>exact sC zq HB);(case s3=>exact sC zs HB);rintro e w42 ⟨v268,v271,rfl,ho0,ho1,hb⟩;refine⟨_,rfl,?_⟩;have z2:=aM (Kd.R_lower ho0 (below_size (qB3 HB zb zd zj)));have z3:=aM (Kd.R_lower ho1 (below_size (qB3 HB zb zd zj)));replace za:=bK za hb;replace zc:=bK zc hb;replace ze:=bK ze hb;replace HB:=bS (qB3 HB zb zd zj) hb;(try clear hb);(try clear hk);(try clear hi);(try clear ho0);(try clear ho1);have hcz43:=blk3 ze.out;obtain⟨yal,yam,yan⟩:=Kd.R_slice z2.out;subst yan;obtain⟨yao,yap,yaq⟩:=Kd.R_slice z3.out;subst yaq))
  refine bodyPost_ret (results_ct rfl _ _ zo 44 #[.int .i64 zaf,.slice yal zag.length yam,.slice yao zah.length yap] (0,0) _ rfl (by exact P3 ze) Try.underlying44 rfl (by kernel_rfl)) rfl ?_
  exact⟨_,_,pE,by(with_reducible repeat(first|apply rA|apply rN|apply rD));exact F3 z2 ze (fun _ hk=>hk.1),by(with_reducible repeat(first|apply rA|apply rN|apply rD));exact F3 z3 ze (fun _ hk=>hk.1),qB3 HB zb zd zj⟩
 rw [iN c32] at H
 have y1:=bF c32
 have y2:=nT c32
 by_cases c46:a0=36
 ·rw [ip c46] at H
  have y3:=bT c46
  have y4:=nF c46
  clear c46
  replace H:=oB H
  obtain⟨⟨zaj,zak,zal,t281⟩,zam,H⟩:=H
  try dsimp only at H
  have A47:=aM zam
  clear zam
  replace H:=oi4 H
  obtain⟨rfl,rfl,rfl,rfl⟩:=H
  go_enter Try.func18,Try.ntmps18
  go_wp2_with (first|((with_reducible refine gD 4 rfl ?_);refine bX 4 24 (aT ye yf yg yh yo yp yq yr ys ym yd.length yn) ?_;intro zu hg w48 hbox hb;have za:=aM (hbox);have zm:=gE (w:=w) hg (qB HB);have zb:=zm;replace HB:=bS (qB HB) hb;clear hb hbox hg)|((with_reducible refine gD 5 rfl ?_);refine bX 5 44 #[.int .i64 yc,.slice yi ya.length yj,.slice yk yb.length yl] ?_;intro zv hg w49 hbox hb;have zc:=aM (hbox);have zn:=gE (w:=w) hg (qB1 HB zb);have zd:=zn;replace HB:=bS (qB1 HB zb) hb;have zk:=nL hg za;have zl:=nG hg za;replace za:=bK za hb;clear hb hbox hg)|((with_reducible refine gD 6 rfl ?_);refine bX 6 44 #[.int .i64 0,.slice none 0 0,.slice none 0 0] ?_;intro zo hg w50 hbox hb;have ze:=aM (hbox);have zp:=gE (w:=w) hg (qB2 HB zb zd);have zj:=zp;replace HB:=bS (qB2 HB zb zd) hb;have zf:=nL hg za;have zg:=nG hg za;replace za:=bK za hb;have zh:=nL hg zc;have zi:=nG hg zc;replace zc:=bK zc hb;clear hb hbox hg;have hnb51:=zl.out;have hnc51:=zk.out;have hnb52:=zh.out;have hnc52:=zi.out;have hcz53:=blk3 zc.out;have hnb54:=zf.out;have hnc54:=zg.out;have hcz55:=blk10 za.out)|((with_reducible refine gC 46 rfl ?_);refine gL 44 Try.func46 #[.agg #[.int .i64 yc,.slice yi ya.length yj,.slice yk yb.length yl],.slice ym yd.length yn] ?_;(with_reducible refine(fcc.calls k yc _ _ ya _ _ yb _ _ yd zaj zak zal t281 _ ?s1 zr.out ?s3 zt.out ?s5 zx.out A47.out).mono ?_);(case s1=>exact sC zq HB);(case s3=>exact sC zs HB);(case s5=>exact sC zw HB);rintro e w56 ⟨v276,v279,rfl,ho0,ho1,hb⟩;refine⟨_,rfl,?_⟩;have z4:=aM (Kd.R_lower ho0 (below_size (qB3 HB zb zd zj)));have z5:=aM (Kd.R_lower ho1 (below_size (qB3 HB zb zd zj)));replace za:=bK za hb;replace zc:=bK zc hb;replace ze:=bK ze hb;replace HB:=bS (qB3 HB zb zd zj) hb;(try clear hb);(try clear hk);(try clear hi);(try clear ho0);(try clear ho1);have hcz57:=blk3 ze.out;obtain⟨yar,yas,yat⟩:=Kd.R_slice z4.out;subst yat;obtain⟨yau,yav,yaw⟩:=Kd.R_slice z5.out;subst yaw))
  refine bodyPost_ret (results_ct rfl _ _ zo 44 #[.int .i64 zaj,.slice yar zak.length yas,.slice yau zal.length yav] (0,0) _ rfl (by exact P3 ze) Try.underlying44 rfl (by kernel_rfl)) rfl ?_
  exact⟨_,_,pE,by(with_reducible repeat(first|apply rA|apply rN|apply rD));exact F3 z4 ze (fun _ hk=>hk.1),by(with_reducible repeat(first|apply rA|apply rN|apply rD));exact F3 z5 ze (fun _ hk=>hk.1),qB3 HB zb zd zj⟩
 rw [iN c46] at H
 have y3:=bF c46
 have y4:=nT c46
 by_cases c60:a0=37
 rotate_left
 ·rw [iN c60] at H
  have y5:=bF c60
  have y6:=nT c60
  replace H:=oi4 H
  obtain⟨rfl,rfl,rfl,rfl⟩:=H
  go_enter Try.func18,Try.ntmps18
  go_wp2_with (first|((with_reducible refine gD 4 rfl ?_);refine bX 4 24 (aT ye yf yg yh yo yp yq yr ys ym yd.length yn) ?_;intro zu hg w74 hbox hb;have za:=aM (hbox);have zm:=gE (w:=w) hg (qB HB);have zb:=zm;replace HB:=bS (qB HB) hb;clear hb hbox hg)|((with_reducible refine gD 5 rfl ?_);refine bX 5 44 #[.int .i64 yc,.slice yi ya.length yj,.slice yk yb.length yl] ?_;intro zv hg w75 hbox hb;have zc:=aM (hbox);have zn:=gE (w:=w) hg (qB1 HB zb);have zd:=zn;replace HB:=bS (qB1 HB zb) hb;have zk:=nL hg za;have zl:=nG hg za;replace za:=bK za hb;clear hb hbox hg)|((with_reducible refine gD 6 rfl ?_);refine bX 6 44 #[.int .i64 0,.slice none 0 0,.slice none 0 0] ?_;intro zo hg w76 hbox hb;have ze:=aM (hbox);have zp:=gE (w:=w) hg (qB2 HB zb zd);have zj:=zp;replace HB:=bS (qB2 HB zb zd) hb;have zf:=nL hg za;have zg:=nG hg za;replace za:=bK za hb;have zh:=nL hg zc;have zi:=nG hg zc;replace zc:=bK zc hb;clear hb hbox hg;have hnb77:=zg.out;have hnc77:=zf.out;have hnb78:=zi.out;have hnc78:=zh.out;have hcz79:=blk3 ze.out))
  refine bodyPost_ret (results_ct rfl _ _ zo 44 #[.int .i64 0,.slice none 0 0,.slice none 0 0] (0,0) _ rfl (by exact P3 ze) Try.underlying44 rfl (by kernel_rfl)) rfl ?_
  exact⟨_,_,pE,pN,pN,qB3 HB zb zd zj⟩
 rw [ip c60] at H
 have y5:=bT c60
 have y6:=nF c60
 clear c60
 replace H:=oB H
 obtain⟨⟨zan,zao,zap,t289⟩,zaq,H⟩:=H
 try dsimp only at H
 have A61:=aM zaq
 clear zaq
 replace H:=oi4 H
 obtain⟨rfl,rfl,rfl,rfl⟩:=H
 go_enter Try.func18,Try.ntmps18
 go_wp2_with (first|((with_reducible refine gD 4 rfl ?_);refine bX 4 24 (aT ye yf yg yh yo yp yq yr ys ym yd.length yn) ?_;intro zu hg w62 hbox hb;have za:=aM (hbox);have zm:=gE (w:=w) hg (qB HB);have zb:=zm;replace HB:=bS (qB HB) hb;clear hb hbox hg)|((with_reducible refine gD 5 rfl ?_);refine bX 5 44 #[.int .i64 yc,.slice yi ya.length yj,.slice yk yb.length yl] ?_;intro zv hg w63 hbox hb;have zc:=aM (hbox);have zn:=gE (w:=w) hg (qB1 HB zb);have zd:=zn;replace HB:=bS (qB1 HB zb) hb;have zk:=nL hg za;have zl:=nG hg za;replace za:=bK za hb;clear hb hbox hg)|((with_reducible refine gD 6 rfl ?_);refine bX 6 44 #[.int .i64 0,.slice none 0 0,.slice none 0 0] ?_;intro zo hg w64 hbox hb;have ze:=aM (hbox);have zp:=gE (w:=w) hg (qB2 HB zb zd);have zj:=zp;replace HB:=bS (qB2 HB zb zd) hb;have zf:=nL hg za;have zg:=nG hg za;replace za:=bK za hb;have zh:=nL hg zc;have zi:=nG hg zc;replace zc:=bK zc hb;clear hb hbox hg;have hnb65:=zl.out;have hnc65:=zk.out;have hnb66:=zh.out;have hnc66:=zi.out;have hcz67:=blk3 zc.out;have hnb68:=zf.out;have hnc68:=zg.out;have hcz69:=blk10 za.out)|((with_reducible refine gC 47 rfl ?_);refine gL 52 Try.func47 #[.agg #[.int .i64 yc,.slice yi ya.length yj,.slice yk yb.length yl],.int .i64 ye] ?_;(with_reducible refine(fcd.calls k yc _ _ ya _ _ yb ye zan zao zap t289 _ ?s1 zr.out ?s3 zt.out A61.out).mono ?_);(case s1=>exact sC zq HB);(case s3=>exact sC zs HB);rintro e w70 ⟨v284,v287,rfl,ho0,ho1,hb⟩;refine⟨_,rfl,?_⟩;have z6:=aM (Kd.R_lower ho0 (below_size (qB3 HB zb zd zj)));have z7:=aM (Kd.R_lower ho1 (below_size (qB3 HB zb zd zj)));replace za:=bK za hb;replace zc:=bK zc hb;replace ze:=bK ze hb;replace HB:=bS (qB3 HB zb zd zj) hb;(try clear hb);(try clear hk);(try clear hi);(try clear ho0);(try clear ho1);have hcz71:=blk3 ze.out;obtain⟨yax,yay,yaz⟩:=Kd.R_slice z6.out;subst yaz;obtain⟨ya0,ya1,ya2⟩:=Kd.R_slice z7.out;subst ya2))
 refine bodyPost_ret (results_ct rfl _ _ zo 44 #[.int .i64 zan,.slice yax zao.length yay,.slice ya0 zap.length ya1] (0,0) _ rfl (by exact P3 ze) Try.underlying44 rfl (by kernel_rfl)) rfl ?_
 exact⟨_,_,pE,by(with_reducible repeat(first|apply rA|apply rN|apply rD));exact F3 z6 ze (fun _ hk=>hk.1),by(with_reducible repeat(first|apply rA|apply rN|apply rD));exact F3 z7 ze (fun _ hk=>hk.1),qB3 HB zb zd zj⟩
def fcj.f (k:Nat) (l0:List Int):Option (Int×List Int×List Int):=(fbq.f l0).bind fun zc=>(if zc=0 then((fbw.f l0).bind fun zf=>((fbu.f k l0).bind fun zg=>(some (0,zf,zg))))else(some (0,([]:List Int),([]:List Int))))
theorem fcj.calls (k:Nat)(A0:Option Addr)(c0:Nat)(l0:List Int) (r1:Int)(r2:List Int)(r3:List Int)(w:World)(hr0:Kd.C (Kd.int .i64) w A0 l0.length l0)(hc0:l0.length≤c0)(h:fcj.f k l0=some (r1,r2,r3)) :
  Calls Try.prog 35 #[.slice A0 l0.length c0] w fun e w'=>∃ v1_ v2_:Value,e=.returned (.agg #[.int .i64 r1,v1_,v2_])∧Kd.R (Kd.int .i64) 3 w' w.heap.size (fun k_=>some k_≠(v2_:Value).ownBlock) v1_ r2∧Kd.R (Kd.int .i64) 3 w' w.heap.size (fun k_=>some k_≠(v1_:Value).ownBlock) v2_ r3∧Below w.heap.size w w':=by
 have hu44:=Try.underlying44
 have HR0:=aM hr0
 have HC0:=aM hc0
 clear hr0 hc0
 have HB:=aM (Below.refl w.heap.size w)
 have H:((fbq.f l0).bind fun zc=>(if zc=0 then((fbw.f l0).bind fun zf=>((fbu.f k l0).bind fun zg=>(some (0,zf,zg))))else(some (0,([]:List Int),([]:List Int)))))=some (r1,r2,r3):=h
 clear h
 replace H:=oB H
 obtain⟨zc,A20,H⟩:=H
 try dsimp only at H
 have A2:=aM A20
 clear A20
 by_cases c3:zc=0
 rotate_left
 ·rw [iN c3] at H
  have ya:=bF c3
  have yb:=nT c3
  replace H:=oi3 H
  obtain⟨rfl,rfl,rfl⟩:=H
  go_enter Try.func35,Try.ntmps35
  go_wp2_with (first|((with_reducible refine gD 2 rfl ?_);refine bX 2 44 #[.int .i64 0,.slice none 0 0,.slice none 0 0] ?_;intro zd hg w12 hbox hb;have za:=aM (hbox);have zh:=gE (w:=w) hg (qB HB);have zb:=zh;replace HB:=bS (qB HB) hb;clear hb hbox hg)|((with_reducible refine gC 31 rfl ?_);refine gL 4 Try.func31 #[.slice A0 l0.length c0] ?_;(with_reducible refine(fbq.calls _ _ l0 zc _ ?s1 HC0.out A2.out).mono ?_);(case s1=>exact sC HR0 HB);rintro e w' ⟨rfl,⟨nd,rfl⟩⟩;refine⟨_,rfl,?_⟩;(try (rw [drewN_self w12];generalize hq_:World.drewN w12 _=w12;have n0_:Aside0 (w12.heap[zd]?=some (.cells #[.int .i64 0,.slice none 0 0,.slice none 0 0] 44 (0,0))):=⟨by rw [← hq_];exact(pK za.out)⟩;have n1_:Aside0 (Below w.heap.size w w12):=⟨by rw [← hq_];exact(qB1 HB zb)⟩;clear za HB hq_;have za:=n0_;have HB:=n1_;clear n0_ n1_));have hcz13:=blk3 za.out))
  refine bodyPost_ret (results_cell_row rfl _ _ zd 44 #[.int .i64 0,.slice none 0 0,.slice none 0 0] (0,0) _ rfl (by exact P3 za) Try.underlying44 rfl (by kernel_rfl)) rfl ?_
  exact⟨_,_,pE,pN,pN,qB1 HB zb⟩
 rw [ip c3] at H
 have ya:=bT c3
 have yb:=nF c3
 clear c3
 replace H:=oB H
 obtain⟨zf,A40,H⟩:=H
 try dsimp only at H
 have A4:=aM A40
 clear A40
 replace H:=oB H
 obtain⟨zg,A50,H⟩:=H
 try dsimp only at H
 have A5:=aM A50
 clear A50
 replace H:=oi3 H
 obtain⟨rfl,rfl,rfl⟩:=H
 go_enter Try.func35,Try.ntmps35
 go_wp2_with (first|((with_reducible refine gD 2 rfl ?_);refine bX 2 44 #[.int .i64 0,.slice none 0 0,.slice none 0 0] ?_;intro zd hg w6 hbox hb;have za:=aM (hbox);have zh:=gE (w:=w) hg (qB HB);have zb:=zh;replace HB:=bS (qB HB) hb;clear hb hbox hg)|((with_reducible refine gC 31 rfl ?_);refine gL 4 Try.func31 #[.slice A0 l0.length c0] ?_;(with_reducible refine(fbq.calls _ _ l0 zc _ ?s1 HC0.out A2.out).mono ?_);(case s1=>exact sC HR0 HB);rintro e w' ⟨rfl,⟨nd,rfl⟩⟩;refine⟨_,rfl,?_⟩;(try (rw [drewN_self w6];generalize hq_:World.drewN w6 _=w6;have n0_:Aside0 (w6.heap[zd]?=some (.cells #[.int .i64 0,.slice none 0 0,.slice none 0 0] 44 (0,0))):=⟨by rw [← hq_];exact(pK za.out)⟩;have n1_:Aside0 (Below w.heap.size w w6):=⟨by rw [← hq_];exact(qB1 HB zb)⟩;clear za HB hq_;have za:=n0_;have HB:=n1_;clear n0_ n1_)))|((with_reducible refine gC 42 rfl ?_);refine gL 8 Try.func42 #[.slice A0 l0.length c0] ?_;(with_reducible refine(fbw.calls _ _ l0 zf _ ?s1 HC0.out A4.out).mono ?_);(case s1=>exact sC HR0 HB);rintro e w7 ⟨v321,rfl,ho0,hb⟩;refine⟨_,rfl,?_⟩;have ze:=aM (Kd.R_lower ho0 (below_size (qB1 HB zb)));replace za:=bK za hb;replace HB:=bS (qB1 HB zb) hb;(try clear hb);(try clear hk);(try clear hi);(try clear ho0))|((with_reducible refine gC 62 rfl ?_);refine gL 10 Try.func62 #[.slice A0 l0.length c0] ?_;(with_reducible refine(fbu.calls k _ _ l0 zg _ ?s1 HC0.out A5.out).mono ?_);(case s1=>exact sC HR0 HB);rintro e w8 ⟨v324,rfl,ho0,hb⟩;refine⟨_,rfl,?_⟩;have zi:=aM (Kd.R_lower (Kd.R_new' ho0 (Kd.R_lt (pR ze.out))) (below_size (qB1 HB zb)));replace ze:=eR ze ho0 hb;replace za:=bK za hb;replace HB:=bS (qB1 HB zb) hb;(try clear hb);(try clear hk);(try clear hi);(try clear ho0);obtain⟨Ao9,co9,eo9⟩:=Kd.R_slice zi.out;subst eo9;obtain⟨yc,yd,ye⟩:=Kd.R_slice ze.out;subst ye;have hcz11:=blk3 za.out))
 refine bodyPost_ret (results_cell_row rfl _ _ zd 44 #[.int .i64 0,.slice yc zf.length yd,.slice Ao9 zg.length co9] (0,0) _ rfl (by exact P3 za) Try.underlying44 rfl (by kernel_rfl)) rfl ?_
 exact⟨_,_,pE,by(with_reducible repeat(first|apply rA|apply rN|apply rD));exact F3 ze za (fun _ hk=>hk.1.2),by(with_reducible repeat(first|apply rA|apply rN|apply rD));exact F3 zi za (fun _ hk=>hk.1.2),qB1 HB zb⟩
mutual
def fbf.j0:Nat→Int→List (List Int)→Bool→Int→Int→Int→Int→Int→Int→Int→Int→Bool→List Int→Option (List Int×Int)
 | 0,_,_,_,_,_,_,_,_,_,_,_,_,_=>none
 | k + 1,x0,x2,x31,zl,zm,zn,zo,zp,zq,zr,zs,zt,zu=>if x31=true then(some (([]:List Int),1))else(fbf.l0 k x0 x2 x2 (x2.length:Int) 0 zl zm zn zo zp zq zr zs zt zu)
def fbf.l0:Nat→Int→List (List Int)→List (List Int)→Int→Int→Int→Int→Int→Int→Int→Int→Int→Int→Bool→List Int→Option (List Int×Int)
 | 0,_,_,_,_,_,_,_,_,_,_,_,_,_,_,_=>none
 | k + 1,x0,x2,x32,x33,x34,zl,zm,zn,zo,zp,zq,zr,zs,zt,zu=>if x34 < x33 then(if 0≤x34 then(if x34 < (x32.length:Int)then((fbq.f (rd_L1 x32 x34)).bind fun zz=>(if zz=0 then(fbf.l0 k x0 x2 x32 x33 (wrap64 (x34 + 1)) zl zm zn zo zp zq zr zs zt zu)else(some (([]:List Int),zz))))else(none))else(none))else(if x0=38 then(if 0 < (x2.length:Int)then((fbo.f k (rd_L1 x2 0) zl zm zn zo zp zq zr zs zt zu).bind fun bt331=>(some (bt331.1,bt331.2)))else(none))else(if x0=39 then(if 0 < (x2.length:Int)then((fbm.f k (rd_L1 x2 0) zl zm zn zo zp zq zr zs zt zu).bind fun bt336=>(some (bt336.1,bt336.2)))else(none))else(if x0=40 then(if 0 < (x2.length:Int)then(if 1 < (x2.length:Int)then((fbl.f k (rd_L1 x2 0) (rd_L1 x2 1) zl).bind fun bt342=>(some (bt342.1,bt342.2)))else(none))else(none))else(if 0 < (x2.length:Int)then((fcj.f k (rd_L1 x2 0)).bind fun bt347=>((fbk.f k x0 zl zm zn zo zp zq zr zs zt zu bt347.1 bt347.2.1 bt347.2.2).bind fun bt354=>(some (bt354.2.1,bt354.2.2.2))))else(none)))))
end
def fbf.f (k:Nat) (a0:Int) (yc:Int) (yd:Int) (ye:Int) (yf:Int) (yg:Int) (yh:Int) (yi:Int) (yj:Int) (yk:Bool) (yb:List Int) (l2:List (List Int)):Option (List Int×Int):=(fbh.f a0).bind fun zak=>(if zak=true then(if(l2.length:Int)=1 then(if a0=40 then(fbf.j0 k a0 l2 ((l2.length:Int) != 2) yc yd ye yf yg yh yi yj yk yb)else(fbf.j0 k a0 l2 false yc yd ye yf yg yh yi yj yk yb))else(if a0=40 then(fbf.j0 k a0 l2 ((l2.length:Int) != 2) yc yd ye yf yg yh yi yj yk yb)else(fbf.j0 k a0 l2 true yc yd ye yf yg yh yi yj yk yb)))else(some (([]:List Int),14)))
def fbf.T14:TT:=(true,[([],[]),([0],[0]),([1],[1]),([],[]),([2,3],[2,3]),([4],[4]),([4],[4]),([5,4,0,1,2,3,4,5,6],[5]),([6,7,0,1,2,3,4,5,6,7],[6])])
def fbf.B14:List Nat:=[0,1,3,0,15,31,31,127,255]
theorem fbf.tab14:rtab .any (opsOf Try.f10 14)=fbf.T14:=by kernel_rfl
theorem fbf.bits14:waitsOk fbf.T14.2 fbf.B14=true:=by kernel_rfl
def fbf.T16:TT:=(true,[([],[]),([0],[0]),([1],[1]),([],[]),([2,3],[2,3]),([4],[4]),([4],[4]),([5,4,0,1,2,3,4,5,6],[5]),([6,7,0,1,2,3,4,5,6,7],[6])])
def fbf.B16:List Nat:=[0,1,3,0,15,31,31,127,255]
theorem fbf.tab16:rtab .any (opsOf Try.f10 16)=fbf.T16:=by kernel_rfl
theorem fbf.bits16:waitsOk fbf.T16.2 fbf.B16=true:=by kernel_rfl
def fbf.T18:TT:=(true,[([],[]),([0],[0]),([1],[1]),([],[]),([3],[3]),([4],[4]),([],[]),([6],[6]),([2,5,7],[2,5,7]),([8],[8]),([8],[8]),([9,8,0,1,2,3,4,5,6,7,8,9,10],[9]),([10,11,0,1,2,3,4,5,6,7,8,9,10,11],[10])])
def fbf.B18:List Nat:=[0,1,3,0,8,24,0,64,255,511,511,2047,4095]
theorem fbf.tab18:rtab .any (opsOf Try.f10 18)=fbf.T18:=by kernel_rfl
theorem fbf.bits18:waitsOk fbf.T18.2 fbf.B18=true:=by kernel_rfl
def fbf.T19:TT:=(true,[([],[]),([],[]),([],[]),([2],[2]),([3],[3]),([4],[4]),([0,1,5,5],[0,1,5]),([6],[6]),([7],[7]),([7],[7]),([],[]),([10,8,6,0,1,2,3,4,5,6,7,8,10],[8,10]),([9,11,0,1,2,3,4,5,6,7,8,9,10,11],[9])])
def fbf.B19:List Nat:=[0,0,0,4,12,28,63,127,255,255,0,1535,4095]
theorem fbf.tab19:rtab .any (opsOf Try.f10 19)=fbf.T19:=by kernel_rfl
theorem fbf.bits19:waitsOk fbf.T19.2 fbf.B19=true:=by kernel_rfl
theorem fbf.calls (k:Nat) (a0:Int) (yc:Int) (yd:Int) (ye:Int) (yf:Int) (yg:Int) (yh:Int) (yi:Int) (yj:Int)(yk:Bool)(ym:Option Addr)(yn:Nat)(yb:List Int)(A2:Option Addr)(c2:Nat)(l2:List (List Int))(r1:List Int) (r2:Int)(w:World)(yat:Kd.C (Kd.int .i64) w ym yb.length yb)(yau:yb.length≤yn)(hr2:Kd.C (Kd.slice 3 (Kd.int .i64)) w A2 l2.length l2)(hc2:l2.length≤c2)(h:fbf.f k a0 yc yd ye yf yg yh yi yj yk yb l2=some (r1,r2)) :
  Calls Try.prog 10 #[.int .i64 a0,.agg #[.int .i64 yc,.int .i64 yd,.int .i64 ye,.int .i64 yf,.int .i64 yg,.int .i64 yh,.int .i64 yi,.int .i64 yj,.bool yk,.slice ym yb.length yn],.slice A2 l2.length c2] w fun e w'=>∃ v0_:Value,e=.returned (.tuple #[v0_,.int .i64 r2])∧Kd.R (Kd.int .i64) 3 w' w.heap.size (fun _=>True) v0_ r1∧Below w.heap.size w w':=by
 have hu24:=Try.underlying24
 have hu44:=Try.underlying44
 have z6:=aM yat
 have z7:=aM yau
 clear yat yau
 have HR2:=aM hr2
 have HC2:=aM hc2
 clear hr2 hc2
 have HB:=aM (Below.refl w.heap.size w)
 have H:((fbh.f a0).bind fun zak=>(if zak=true then(if(l2.length:Int)=1 then(if a0=40 then(fbf.j0 k a0 l2 ((l2.length:Int) != 2) yc yd ye yf yg yh yi yj yk yb)else(fbf.j0 k a0 l2 false yc yd ye yf yg yh yi yj yk yb))else(if a0=40 then(fbf.j0 k a0 l2 ((l2.length:Int) != 2) yc yd ye yf yg yh yi yj yk yb)else(fbf.j0 k a0 l2 true yc yd ye yf yg yh yi yj yk yb)))else(some (([]:List Int),14))))=some (r1,r2):=h
 clear h
 replace H:=oB H
 obtain⟨zak,A40,H⟩:=H
 try dsimp only at H
 have A4:=aM A40
 clear A40
 by_cases c5:zak=true
 rotate_left
 ·replace c5:=Bool.eq_false_iff.mpr c5
  subst c5
  rw [iN (show ¬ (false=true) by decide)] at H
  replace H:=oi2 H
  obtain⟨rfl,rfl⟩:=H
  go_enter Try.func10,Try.ntmps10
  go_wp2_with (first|((with_reducible refine gD 4 rfl ?_);(try (refine gate_guard (by rfl) ?_;dsimp only));refine bX 4 24 (aT yc yd ye yf yg yh yi yj yk ym yb.length yn) ?_;intro zc hg w50 hbox hb;have za:=aM (hbox);have zal:=gE (w:=w) hg (qB HB);have ze:=zal;replace HB:=bS (qB HB) hb;clear hb hbox hg)|((with_reducible refine gC 13 rfl ?_);refine gL 14 Try.func13 #[.int .i64 a0] ?_;(with_reducible refine(fbh.calls a0 false _ A4.out).mono ?_);rintro e w' ⟨rfl,⟨nd,rfl⟩⟩;refine⟨_,rfl,?_⟩))
  go_ret2
  exact⟨_,pE,pN,qB1 HB ze⟩
 subst c5
 rw [ip rfl] at H
 have HC6:=aM H
 clear H
 go_enter Try.func10,Try.ntmps10
 go_upto_region 3 with(first|((with_reducible refine gD 4 rfl ?_);(try (refine gate_guard (by rfl) ?_;dsimp only));refine bX 4 24 (aT yc yd ye yf yg yh yi yj yk ym yb.length yn) ?_;intro zc hg w7 hbox hb;have za:=aM (hbox);have zal:=gE (w:=w) hg (qB HB);have ze:=zal;replace HB:=bS (qB HB) hb;clear hb hbox hg)|((with_reducible refine gC 13 rfl ?_);refine gL 14 Try.func13 #[.int .i64 a0] ?_;(with_reducible refine(fbh.calls a0 true _ A4.out).mono ?_);rintro e w' ⟨rfl,⟨nd,rfl⟩⟩;refine⟨_,rfl,?_⟩))
 (try simp only [Act.put,sP])
 go_cut [31] (fun v31 wc=>∃ (kq:Nat) (y4:Bool),v31=.bool y4∧Aside0 (fbf.j0 kq a0 l2 y4 yc yd ye yf yg yh yi yj yk yb=some (r1,r2))∧Aside0 (kq≤k)∧Aside0 (wc.heap[zc]?=some (.cells (aT yc yd ye yf yg yh yi yj yk ym yb.length yn) 24 (0,0)))∧Aside0 (Below w.heap.size w wc))
 case first =>
  have H:=HC6.out
  clear HC6
  by_cases c8:(l2.length:Int)=1
  rotate_left
  ·rw [iN c8] at H
   have zam:=bF c8
   have ybd:=nT c8
   (first|rw [zam]|(simp only [i64_w,i32_w];rw [zam])|skip)
   by_cases c10:a0=40
   rotate_left
   ·rw [iN c10] at H
    have yay:=bF c10
    have yaz:=nT c10
    have H':=aM H
    clear H
    go_wp2
    go_meet
    case rel=>exact⟨_,(true),(pF),H',⟨pO⟩,⟨pK za.out⟩,⟨qB1 HB ze⟩⟩
   rw [ip c10] at H
   have yay:=bT c10
   have yaz:=nF c10
   clear c10
   have H':=aM H
   clear H
   go_wp2
   go_meet
   case rel=>exact⟨_,(((l2.length:Int) != 2)),(pF),H',⟨pO⟩,⟨pK za.out⟩,⟨qB1 HB ze⟩⟩
  rw [ip c8] at H
  have zam:=bT c8
  have ybd:=nF c8
  clear c8
  (first|rw [zam]|(simp only [i64_w,i32_w];rw [zam])|skip)
  by_cases c9:a0=40
  rotate_left
  ·rw [iN c9] at H
   have ybe:=bF c9
   have ybf:=nT c9
   have H':=aM H
   clear H
   go_wp2
   go_meet
   case rel=>exact⟨_,(false),(pF),H',⟨pO⟩,⟨pK za.out⟩,⟨qB1 HB ze⟩⟩
  rw [ip c9] at H
  have ybe:=bT c9
  have ybf:=nF c9
  clear c9
  have H':=aM H
  clear H
  go_wp2
  go_meet
  case rel=>exact⟨_,(((l2.length:Int) != 2)),(pF),H',⟨pO⟩,⟨pK za.out⟩,⟨qB1 HB ze⟩⟩
 clear HC6
 try clear c2
 try clear c5
 obtain⟨kq,y4,rfl,HA,HJ5,za,HB⟩:=hcut
 cases kq with
 | zero=>exact absurd HA.out (by simp [fbf.j0])
 | succ kj5=>?_
 have H:=HA.out
 clear HA
 simp only [fbf.j0] at H
 by_cases c11:y4=true
 ·subst c11
  rw [ip rfl] at H
  replace H:=oi2 H
  obtain⟨rfl,rfl⟩:=H
  go_wp2
  go_ret2
  exact⟨_,pE,pN,qB1 HB ze⟩
 replace c11:=Bool.eq_false_iff.mpr c11
 subst c11
 rw [iN (show ¬ (false=true) by decide)] at H
 have H':=aM H
 clear H
 go_wp2
 go_loopg [34] kj5 (fun kq v34 w'=>∃ (yl:Int),v34=.int .i64 yl∧Aside0 (fbf.l0 kq a0 l2 l2 (l2.length:Int) yl yc yd ye yf yg yh yi yj yk yb=some (r1,r2))∧Aside0 (kq≤kj5)∧Aside0 (w'.heap[zc]?=some (.cells (aT yc yd ye yf yg yh yi yj yk ym yb.length yn) 24 (0,0)))∧Aside0 (Below w.heap.size w w'))
 case atStart=>exact⟨(0),(pF),H',⟨Nat.le_refl _⟩,⟨pK za.out⟩,⟨qB1 HB ze⟩⟩
 clear H'
 try clear c11
 obtain⟨yl,rfl,HA,HK2,za,HB⟩:=hrel
 cases gk with
 | zero=>exact absurd HA.out (by simp [fbf.l0])
 | succ k2=>?_
 have H:=HA.out
 clear HA
 simp only [fbf.l0] at H
 by_cases c12:yl < (l2.length:Int)
 ·rw [ip c12] at H
  have ya0:=dT c12
  clear c12
  by_cases c13:0≤yl
  rotate_left
  ·rw [iN c13] at H
   cases H
  rw [ip c13] at H
  have c13b0:=dT c13
  clear c13
  by_cases c14:yl < (l2.length:Int)
  rotate_left
  ·rw [iN c14] at H
   cases H
  rw [ip c14] at H
  have c14b0:=dT c14
  clear c14
  replace H:=oB H
  obtain⟨zz,zas,H⟩:=H
  try dsimp only at H
  have A15:=aM zas
  clear zas
  by_cases c16:zz=0
  rotate_left
  ·rw [iN c16] at H
   have ya1:=bF c16
   have ya2:=nT c16
   replace H:=oi2 H
   obtain⟨rfl,rfl⟩:=H
   have yav:0≤(yl:Int):=oD
   have yaw:yl < (l2.length:Int):=oD
   obtain⟨ya3,y2,y3,yax,yt,yu,yv⟩:=at_L1 HR2.out yl yav yaw
   cases yax
   replace yt:=zW HB yt
   have z2:=aM yv
   have z3:=aM yu
   clear yv yu
   go_wp2_with (first|((with_reducible refine gC 31 rfl ?_);refine gL 39 Try.func31 #[.slice y2 (rd_L1 l2 yl).length y3] ?_;(with_reducible refine(fbq.calls _ _ (rd_L1 l2 yl) zz _ ?s1 z3.out A15.out).mono ?_);(case s1=>exact sC z2 HB);rintro e w' ⟨rfl,⟨nd,rfl⟩⟩;refine⟨_,rfl,?_⟩))
   go_ret2
   exact⟨_,pE,pN,qB1 HB ze⟩
  rw [ip c16] at H
  have ya1:=bT c16
  have ya2:=nF c16
  clear c16
  have H':=aM H
  clear H
  have yav:0≤(yl:Int):=oD
  have yaw:yl < (l2.length:Int):=oD
  obtain⟨ya3,y2,y3,yax,yt,yu,yv⟩:=at_L1 HR2.out yl yav yaw
  cases yax
  replace yt:=zW HB yt
  have z2:=aM yv
  have z3:=aM yu
  clear yv yu
  go_wp2_with (first|((with_reducible refine gC 31 rfl ?_);refine gL 39 Try.func31 #[.slice y2 (rd_L1 l2 yl).length y3] ?_;(with_reducible refine(fbq.calls _ _ (rd_L1 l2 yl) zz _ ?s1 z3.out A15.out).mono ?_);(case s1=>exact sC z2 HB);rintro e w' ⟨rfl,⟨nd,rfl⟩⟩;refine⟨_,rfl,?_⟩))
  go_roundg k2
  case measure=>have:=HJ5.out;have:=HK2.out;omega
  case rel=>exact⟨(wrap64 (yl + 1)),(pF),H',⟨pO2 HJ5 HK2⟩,⟨pK za.out⟩,⟨qB1 HB ze⟩⟩
 rw [iN c12] at H
 have ya0:=dF c12
 clear c12
 by_cases c17:a0=38
 ·rw [ip c17] at H
  have ya4:=bT c17
  have ya5:=nF c17
  clear c17
  by_cases c18:0 < (l2.length:Int)
  rotate_left
  ·rw [iN c18] at H
   cases H
  rw [ip c18] at H
  have c18b0:=dT c18
  have c18b1:decide (0 < l2.length)=true:=decide_eq_true (by omega)
  clear c18
  replace H:=oB H
  obtain⟨⟨t331,t334⟩,zat,H⟩:=H
  try dsimp only at H
  have A19:=aM zat
  clear zat
  replace H:=oi2 H
  obtain⟨rfl,rfl⟩:=H
  try go_wp2
  replace za:=aM (blk_drew za.out)
  replace HB:=aM (below_drew1 HB.out)
  have ybg:0≤(0:Int):=(by omega)
  have ybh:0 < (l2.length:Int):=oD
  obtain⟨ya6,yag,yah,ybi,yo,y5,y6⟩:=at_L1 HR2.out 0 ybg ybh
  have yw:=yo
  (try rw [show ((0:Int)).toNat=0 from rfl] at yw)
  (try rw [show 0 * 1=0 from rfl] at yw)
  (try rw [Addr.add_zero'] at yw)
  cases ybi
  have qi330:(0 < l2.length)=True:=eq_true (by omega)
  (try rw [show ((0:Int)).toNat=0 from rfl] at yo)
  (try rw [Addr.add_zero'] at yo)
  replace yo:=zW HB yo
  have zab:=aM y6
  have yap:=aM y5
  clear y6 y5
  refine sT 9 [] (fun w'=>w'.cell? ⟨zc,0,none⟩=some (.int .i64 yc)∧w'.cell? ⟨zc,1,none⟩=some (.int .i64 yd)∧w'.cell? ⟨zc,2,none⟩=some (.int .i64 ye)∧w'.cell? ⟨zc,3,none⟩=some (.int .i64 yf)∧w'.cell? ⟨zc,4,none⟩=some (.int .i64 yg)∧w'.cell? ⟨zc,5,none⟩=some (.int .i64 yh)∧w'.cell? ⟨zc,6,none⟩=some (.int .i64 yi)∧w'.cell? ⟨zc,7,none⟩=some (.int .i64 yj)∧w'.cell? ⟨zc,8,none⟩=some (.bool yk)∧w'.cell? ⟨zc,9,none⟩=some (.slice ym yb.length yn)∧w'.cell? ya6=some (.slice yag (rd_L1 l2 0).length yah)) fbf.tab14 fbf.bits14 (c10 za (zW HB yw)) (fun hHeld HT_ HW_=>?_)
  generalize wr.drew=w20 at za HB zab yo hHeld ⊢
  refine pQ 0 47 9 1 HT_ ?_
  refine pQ 1 48 9 3 HT_ ?_
  refine pU11 2 49 9 7 HT_ HW_ hHeld ?_
  refine pU11 3 50 9 15 HT_ HW_ hHeld ?_
  refine oN 4 51 9 31 HT_ (fun K hK=>?_)
  refine gS Try.func32 #[.slice yag (rd_L1 l2 0).length yah,.agg (aT yc yd ye yf yg yh yi yj yk ym yb.length yn)] ?_
  with_reducible refine(fbo.calls k2 _ _ (rd_L1 l2 0) yc yd ye yf yg yh yi yj yk _ _ yb t331 t334 _ ?s1 yap.out ?s3 z7.out A19.out).mono ?_
  (case s1=>exact sC zab HB)
  (case s3=>exact sC z6 HB)
  rintro e w21 ⟨v332,rfl,ho0,hb⟩
  refine⟨_,rfl,?_⟩
  have HO333:=aM (Kd.R_lower ho0 (below_size (qB1 HB ze)))
  replace za:=bK za hb
  replace HB:=bS (qB1 HB ze) hb
  (try clear hb)
  (try clear ho0)
  refine hK.out _ _ (c10 za (zW HB yw)) (fun hHeld=>?_)
  clear hK K
  refine norm_ (a':=?_) ?_ ?_
  rotate_left
  ·show Act.put _ (some 51) _=_
   simp only [Act.put,sP,i64_w,i32_w]
   rfl
  refine pQ 5 52 9 63 HT_ ?_
  refine pQ 6 53 9 127 HT_ ?_
  refine pQ 7 6 9 255 HT_ ?_
  refine pQ 8 7 9 511 HT_ ?_
  refine dN HT_ ?_
  try go_wp2
  go_ret2
  exact⟨_,pE,pR HO333.out,qB1 HB ze⟩
 rw [iN c17] at H
 have ya4:=bF c17
 have ya5:=nT c17
 by_cases c22:a0=39
 ·rw [ip c22] at H
  have ya7:=bT c22
  have ya8:=nF c22
  clear c22
  by_cases c23:0 < (l2.length:Int)
  rotate_left
  ·rw [iN c23] at H
   cases H
  rw [ip c23] at H
  have c23b0:=dT c23
  have c23b1:decide (0 < l2.length)=true:=decide_eq_true (by omega)
  clear c23
  replace H:=oB H
  obtain⟨⟨t336,t339⟩,zau,H⟩:=H
  try dsimp only at H
  have A24:=aM zau
  clear zau
  replace H:=oi2 H
  obtain⟨rfl,rfl⟩:=H
  try go_wp2
  replace za:=aM (blk_drew za.out)
  replace HB:=aM (below_drew1 HB.out)
  have ybj:0≤(0:Int):=(by omega)
  have ybk:0 < (l2.length:Int):=oD
  obtain⟨ya9,yai,yaj,ybl,yp,y7,y8⟩:=at_L1 HR2.out 0 ybj ybk
  have yx:=yp
  (try rw [show ((0:Int)).toNat=0 from rfl] at yx)
  (try rw [show 0 * 1=0 from rfl] at yx)
  (try rw [Addr.add_zero'] at yx)
  cases ybl
  have qi335:(0 < l2.length)=True:=eq_true (by omega)
  (try rw [show ((0:Int)).toNat=0 from rfl] at yp)
  (try rw [Addr.add_zero'] at yp)
  replace yp:=zW HB yp
  have zac:=aM y8
  have yaq:=aM y7
  clear y8 y7
  refine sT 9 [] (fun w'=>w'.cell? ⟨zc,0,none⟩=some (.int .i64 yc)∧w'.cell? ⟨zc,1,none⟩=some (.int .i64 yd)∧w'.cell? ⟨zc,2,none⟩=some (.int .i64 ye)∧w'.cell? ⟨zc,3,none⟩=some (.int .i64 yf)∧w'.cell? ⟨zc,4,none⟩=some (.int .i64 yg)∧w'.cell? ⟨zc,5,none⟩=some (.int .i64 yh)∧w'.cell? ⟨zc,6,none⟩=some (.int .i64 yi)∧w'.cell? ⟨zc,7,none⟩=some (.int .i64 yj)∧w'.cell? ⟨zc,8,none⟩=some (.bool yk)∧w'.cell? ⟨zc,9,none⟩=some (.slice ym yb.length yn)∧w'.cell? ya9=some (.slice yai (rd_L1 l2 0).length yaj)) fbf.tab16 fbf.bits16 (c10 za (zW HB yx)) (fun hHeld HT_ HW_=>?_)
  generalize wr.drew=w25 at za HB zac yp hHeld ⊢
  refine pQ 0 56 9 1 HT_ ?_
  refine pQ 1 57 9 3 HT_ ?_
  refine pU11 2 58 9 7 HT_ HW_ hHeld ?_
  refine pU11 3 59 9 15 HT_ HW_ hHeld ?_
  refine oN 4 60 9 31 HT_ (fun K hK=>?_)
  refine gS Try.func33 #[.slice yai (rd_L1 l2 0).length yaj,.agg (aT yc yd ye yf yg yh yi yj yk ym yb.length yn)] ?_
  with_reducible refine(fbm.calls k2 _ _ (rd_L1 l2 0) yc yd ye yf yg yh yi yj yk _ _ yb t336 t339 _ ?s1 yaq.out ?s3 z7.out A24.out).mono ?_
  (case s1=>exact sC zac HB)
  (case s3=>exact sC z6 HB)
  rintro e w26 ⟨v337,rfl,ho0,hb⟩
  refine⟨_,rfl,?_⟩
  have HO338:=aM (Kd.R_lower ho0 (below_size (qB1 HB ze)))
  replace za:=bK za hb
  replace HB:=bS (qB1 HB ze) hb
  (try clear hb)
  (try clear ho0)
  refine hK.out _ _ (c10 za (zW HB yx)) (fun hHeld=>?_)
  clear hK K
  refine norm_ (a':=?_) ?_ ?_
  rotate_left
  ·show Act.put _ (some 60) _=_
   simp only [Act.put,sP,i64_w,i32_w]
   rfl
  refine pQ 5 61 9 63 HT_ ?_
  refine pQ 6 62 9 127 HT_ ?_
  refine pQ 7 6 9 255 HT_ ?_
  refine pQ 8 7 9 511 HT_ ?_
  refine dN HT_ ?_
  try go_wp2
  go_ret2
  exact⟨_,pE,pR HO338.out,qB1 HB ze⟩
 rw [iN c22] at H
 have ya7:=bF c22
 have ya8:=nT c22
 by_cases c27:a0=40
 ·rw [ip c27] at H
  have yba:=bT c27
  have ybb:=nF c27
  clear c27
  by_cases c28:0 < (l2.length:Int)
  rotate_left
  ·rw [iN c28] at H
   cases H
  rw [ip c28] at H
  have c28b0:=dT c28
  have c28b1:decide (0 < l2.length)=true:=decide_eq_true (by omega)
  clear c28
  by_cases c29:1 < (l2.length:Int)
  rotate_left
  ·rw [iN c29] at H
   cases H
  rw [ip c29] at H
  have c29b0:=dT c29
  have c29b1:decide (1 < l2.length)=true:=decide_eq_true (by omega)
  clear c29
  replace H:=oB H
  obtain⟨⟨t342,t343⟩,zav,H⟩:=H
  try dsimp only at H
  have A30:=aM zav
  clear zav
  replace H:=oi2 H
  obtain⟨rfl,rfl⟩:=H
  try go_wp2
  replace za:=aM (blk_drew za.out)
  replace HB:=aM (below_drew1 HB.out)
  have ybm:0≤(0:Int):=(by omega)
  have ybn:0 < (l2.length:Int):=oD
  obtain⟨y9,yak,yal,ybo,yq,yaa,yab⟩:=at_L1 HR2.out 0 ybm ybn
  have yy:=yq
  (try rw [show ((0:Int)).toNat=0 from rfl] at yy)
  (try rw [show 0 * 1=0 from rfl] at yy)
  (try rw [Addr.add_zero'] at yy)
  cases ybo
  have qi340:(0 < l2.length)=True:=eq_true (by omega)
  (try rw [show ((0:Int)).toNat=0 from rfl] at yq)
  (try rw [Addr.add_zero'] at yq)
  replace yq:=zW HB yq
  have zad:=aM yab
  have yar:=aM yaa
  clear yab yaa
  have ybp:0≤(1:Int):=(by omega)
  have ybq:1 < (l2.length:Int):=oD
  obtain⟨ybc,yam,yan,ybr,yr,yac,yad⟩:=at_L1 HR2.out 1 ybp ybq
  have yz:=yr
  (try rw [show ((1:Int)).toNat=1 from rfl] at yz)
  (try rw [show 1 * 1=1 from rfl] at yz)
  (try simp only [Nat.reduceMul,Nat.reduceEqDiff,Go.Addr.add,↓reduceIte] at yz)
  obtain rfl:y9=ybc:=(by injection ybr)
  (try simp only [show (1:Int).toNat=1 from rfl,Nat.reduceMul,Nat.reduceEqDiff,Go.Addr.add,↓reduceIte] at yr)
  have qi341:(1 < l2.length)=True:=eq_true (by omega)
  (try rw [show ((1:Int)).toNat=1 from rfl] at yr)
  replace yr:=zW HB yr
  have zae:=aM yad
  have yas:=aM yac
  clear yad yac
  refine sT 13 [] (fun w'=>w'.cell? ⟨zc,0,none⟩=some (.int .i64 yc)∧w'.cell? ⟨zc,1,none⟩=some (.int .i64 yd)∧w'.cell? ⟨zc,2,none⟩=some (.int .i64 ye)∧w'.cell? ⟨zc,3,none⟩=some (.int .i64 yf)∧w'.cell? ⟨zc,4,none⟩=some (.int .i64 yg)∧w'.cell? ⟨zc,5,none⟩=some (.int .i64 yh)∧w'.cell? ⟨zc,6,none⟩=some (.int .i64 yi)∧w'.cell? ⟨zc,7,none⟩=some (.int .i64 yj)∧w'.cell? ⟨zc,8,none⟩=some (.bool yk)∧w'.cell? ⟨zc,9,none⟩=some (.slice ym yb.length yn)∧w'.cell? y9=some (.slice yak (rd_L1 l2 0).length yal)∧w'.cell? ⟨y9.block,y9.off + 1,none⟩=some (.slice yam (rd_L1 l2 1).length yan)) fbf.tab18 fbf.bits18 (c10 za ⟨(zW HB yy),(zW HB yz)⟩) (fun hHeld HT_ HW_=>?_)
  generalize wr.drew=w31 at za HB zad zae yq yr hHeld ⊢
  refine pQ 0 65 13 1 HT_ ?_
  refine pQ 1 66 13 3 HT_ ?_
  refine pQ 3 68 13 11 HT_ ?_
  refine pQ 4 69 13 27 HT_ ?_
  refine pQ 6 71 13 91 HT_ ?_
  refine pU12 2 67 13 95 HT_ HW_ hHeld ?_
  refine pU12 5 70 13 127 HT_ HW_ hHeld ?_
  refine pU12 7 72 13 255 HT_ HW_ hHeld ?_
  refine oN 8 73 13 511 HT_ (fun K hK=>?_)
  refine gS Try.func34 #[.slice yak (rd_L1 l2 0).length yal,.slice yam (rd_L1 l2 1).length yan,.int .i64 yc] ?_
  with_reducible refine(fbl.calls k2 _ _ (rd_L1 l2 0) _ _ (rd_L1 l2 1) yc t342 t343 _ ?s1 yar.out ?s3 yas.out A30.out).mono ?_
  (case s1=>exact sC zad HB)
  (case s3=>exact sC zae HB)
  rintro e w32 ⟨v344,rfl,ho0,hb⟩
  refine⟨_,rfl,?_⟩
  have HO345:=aM (Kd.R_lower ho0 (below_size (qB1 HB ze)))
  replace za:=bK za hb
  replace HB:=bS (qB1 HB ze) hb
  (try clear hb)
  (try clear ho0)
  refine hK.out _ _ (c10 za ⟨(zW HB yy),(zW HB yz)⟩) (fun hHeld=>?_)
  clear hK K
  refine norm_ (a':=?_) ?_ ?_
  rotate_left
  ·show Act.put _ (some 73) _=_
   simp only [Act.put,sP,i64_w,i32_w]
   rfl
  refine pQ 9 74 13 1023 HT_ ?_
  refine pQ 10 75 13 2047 HT_ ?_
  refine pQ 11 6 13 4095 HT_ ?_
  refine pQ 12 7 13 8191 HT_ ?_
  refine dN HT_ ?_
  try go_wp2
  go_ret2
  exact⟨_,pE,pR HO345.out,qB1 HB ze⟩
 rw [iN c27] at H
 have yba:=bF c27
 have ybb:=nT c27
 by_cases c33:0 < (l2.length:Int)
 rotate_left
 ·rw [iN c33] at H
  cases H
 rw [ip c33] at H
 have c33b0:=dT c33
 have c33b1:decide (0 < l2.length)=true:=decide_eq_true (by omega)
 clear c33
 replace H:=oB H
 obtain⟨⟨z4,zx,zy⟩,zaw,H⟩:=H
 try dsimp only at H
 have A34:=aM zaw
 clear zaw
 replace H:=oB H
 obtain⟨⟨zag,zan,zao,zah⟩,zax,H⟩:=H
 try dsimp only at H
 have A35:=aM zax
 clear zax
 replace H:=oi2 H
 obtain⟨rfl,rfl⟩:=H
 try go_wp2
 replace za:=aM (blk_drew za.out)
 replace HB:=aM (below_drew1 HB.out)
 have ybs:0≤(0:Int):=(by omega)
 have ybt:0 < (l2.length:Int):=oD
 obtain⟨yao,y0,y1,ybu,ys,yae,yaf⟩:=at_L1 HR2.out 0 ybs ybt
 have ya:=ys
 (try rw [show ((0:Int)).toNat=0 from rfl] at ya)
 (try rw [show 0 * 1=0 from rfl] at ya)
 (try rw [Addr.add_zero'] at ya)
 cases ybu
 have qi346:(0 < l2.length)=True:=eq_true (by omega)
 (try rw [show ((0:Int)).toNat=0 from rfl] at ys)
 (try rw [Addr.add_zero'] at ys)
 replace ys:=zW HB ys
 have z5:=aM yaf
 have zaf:=aM yae
 clear yaf yae
 refine sT 13 [] (fun w'=>w'.cell? ⟨zc,0,none⟩=some (.int .i64 yc)∧w'.cell? ⟨zc,1,none⟩=some (.int .i64 yd)∧w'.cell? ⟨zc,2,none⟩=some (.int .i64 ye)∧w'.cell? ⟨zc,3,none⟩=some (.int .i64 yf)∧w'.cell? ⟨zc,4,none⟩=some (.int .i64 yg)∧w'.cell? ⟨zc,5,none⟩=some (.int .i64 yh)∧w'.cell? ⟨zc,6,none⟩=some (.int .i64 yi)∧w'.cell? ⟨zc,7,none⟩=some (.int .i64 yj)∧w'.cell? ⟨zc,8,none⟩=some (.bool yk)∧w'.cell? ⟨zc,9,none⟩=some (.slice ym yb.length yn)∧w'.cell? yao=some (.slice y0 (rd_L1 l2 0).length y1)) fbf.tab19 fbf.bits19 (c10 za (zW HB ya)) (fun hHeld HT_ HW_=>?_)
 generalize wr.drew=w36 at za HB z5 ys hHeld ⊢
 refine pQ 0 77 13 1 HT_ ?_
 refine pQ 2 79 13 5 HT_ ?_
 refine pQ 3 80 13 13 HT_ ?_
 refine pU11 1 78 13 15 HT_ HW_ hHeld ?_
 refine pU11 4 81 13 31 HT_ HW_ hHeld ?_
 refine join_ (σ:=Value×Value×Value×Value×Nat) 2 (bm 13 2047) (fun s_=>[(82,.agg #[.int .i64 z4,s_.1,s_.2.1]),(83,.tuple #[.agg #[.int .i64 zag,s_.2.2.1,s_.2.2.2.1],.int .i64 zah]),(11,.pointer (some ⟨s_.2.2.2.2,0,none⟩)),(76,.tuple #[.agg #[.int .i64 zag,s_.2.2.1,s_.2.2.2.1],.int .i64 zah]),(84,.agg #[.int .i64 zag,s_.2.2.1,s_.2.2.2.1]),(85,.int .i64 zah)]) (fun s_ w'=>(w'.cell? ⟨zc,0,none⟩=some (.int .i64 yc)∧w'.cell? ⟨zc,1,none⟩=some (.int .i64 yd)∧w'.cell? ⟨zc,2,none⟩=some (.int .i64 ye)∧w'.cell? ⟨zc,3,none⟩=some (.int .i64 yf)∧w'.cell? ⟨zc,4,none⟩=some (.int .i64 yg)∧w'.cell? ⟨zc,5,none⟩=some (.int .i64 yh)∧w'.cell? ⟨zc,6,none⟩=some (.int .i64 yi)∧w'.cell? ⟨zc,7,none⟩=some (.int .i64 yj)∧w'.cell? ⟨zc,8,none⟩=some (.bool yk)∧w'.cell? ⟨zc,9,none⟩=some (.slice ym yb.length yn)∧w'.cell? yao=some (.slice y0 (rd_L1 l2 0).length y1))∧(Kd.R (Kd.int .i64) 3 w' w.heap.size (fun k_=>some k_≠(s_.2.1:Value).ownBlock∧some k_≠(s_.2.2.1:Value).ownBlock∧some k_≠(s_.2.2.2.1:Value).ownBlock) s_.1 zx)∧(Kd.R (Kd.int .i64) 3 w' w.heap.size (fun k_=>some k_≠(s_.1:Value).ownBlock∧some k_≠(s_.2.2.1:Value).ownBlock∧some k_≠(s_.2.2.2.1:Value).ownBlock) s_.2.1 zy)∧(Kd.R (Kd.int .i64) 3 w' w.heap.size (fun k_=>some k_≠(s_.1:Value).ownBlock∧some k_≠(s_.2.1:Value).ownBlock∧some k_≠(s_.2.2.2.1:Value).ownBlock) s_.2.2.1 zan)∧(Kd.R (Kd.int .i64) 3 w' w.heap.size (fun k_=>some k_≠(s_.1:Value).ownBlock∧some k_≠(s_.2.1:Value).ownBlock∧some k_≠(s_.2.2.1:Value).ownBlock) s_.2.2.2.1 zao)∧(w'.heap[zc]?=some (.cells (aT yc yd ye yf yg yh yi yj yk ym yb.length yn) 24 (0,0)))∧(w'.heap[s_.2.2.2.2]?=some (.cells #[.int .i64 0,.slice none 0 0,.slice none 0 0] 44 (0,0)))∧(w.heap.size≤s_.2.2.2.2)∧(w.heap.size≤s_.2.2.2.2)∧(zc≠s_.2.2.2.2)∧(s_.2.2.2.2≠zc)∧(Below w.heap.size w w')) ?_ ?_
 rotate_left
 ·intro hCont
  refine two_ (i:=5) (j:=10) (Ni:=some 82) (Nj:=some 11) (bm 13 63) (bm 13 1055) rfl rfl rfl rfl (two_of HT_.out (by kernel_rfl)) (by decide) (by decide) (fun K hK=>?_) (fun K hK=>?_)
  ·skip
   refine gS Try.func35 #[.slice y0 (rd_L1 l2 0).length y1] ?_
   with_reducible refine(fcj.calls k2 _ _ (rd_L1 l2 0) z4 zx zy _ ?s1 zaf.out A34.out).mono ?_
   (case s1=>exact sC z5 HB)
   rintro e w37 ⟨zai,zaj,rfl,ho0,ho1,hb⟩
   refine⟨_,rfl,?_⟩
   have zf:=aM (Kd.R_lower ho0 (below_size (qB1 HB ze)))
   have zg:=aM (Kd.R_lower ho1 (below_size (qB1 HB ze)))
   replace za:=bK za hb
   replace HB:=bS (qB1 HB ze) hb
   (try clear hb)
   (try clear ho0)
   (try clear ho1)
   obtain⟨zay,zaz,za0⟩:=Kd.R_slice zf.out
   (first|subst za0|(injection za0 with f1_ f2_ f3_;have f4_:=f1_.symm;have f5_:=f3_.symm;clear f1_ f2_ f3_;subst f4_;subst f5_))
   obtain⟨z8,z9,zaa⟩:=Kd.R_slice zg.out
   (first|subst zaa|(injection zaa with f1_ f2_ f3_;have f4_:=f1_.symm;have f5_:=f3_.symm;clear f1_ f2_ f3_;subst f4_;subst f5_))
   refine hK.out _ _ (c10 za (zW HB ya)) (fun hHeld=>?_)
   clear hK K
   refine norm_ (a':=?_) ?_ ?_
   rotate_left
   ·show Act.put _ (some 82) _=_
    simp only [Act.put,sP,i64_w,i32_w]
    rfl
   refine two_ (i:=6) (j:=10) (Ni:=some 83) (Nj:=some 11) (bm 13 127) (bm 13 1087) rfl rfl rfl rfl (two_of HT_.out (by kernel_rfl)) (by decide) (by decide) (fun K hK=>?_) (fun K hK=>?_)
   ·skip
    refine gS Try.func18 #[.int .i64 a0,.agg (aT yc yd ye yf yg yh yi yj yk ym yb.length yn),.agg #[.int .i64 z4,.slice zay zx.length zaz,.slice z8 zy.length z9]] ?_
    with_reducible refine(fbk.calls k2 a0 yc yd ye yf yg yh yi yj yk _ _ yb z4 _ _ zx _ _ zy zag zan zao zah _ ?s1 z7.out ?s3 ?s4 ?s5 ?s6 A35.out).mono ?_
    (case s1=>exact sC z6 HB)
    (case s3=>exact sR zf)
    (case s4=>exact sL zf)
    (case s5=>exact sR zg)
    (case s6=>exact sL zg)
    rintro e w40 ⟨z0,z1,rfl,ho0,ho1,hb⟩
    refine⟨_,rfl,?_⟩
    have zv:=aM (Kd.R_lower (Kd.R_new' (Kd.R_new' ho0 (Kd.R_lt (pR zf.out))) (Kd.R_lt (pR zg.out))) (below_size (qB1 HB ze)))
    have zw:=aM (Kd.R_lower (Kd.R_new' (Kd.R_new' ho1 (Kd.R_lt (pR zf.out))) (Kd.R_lt (pR zg.out))) (below_size (qB1 HB ze)))
    replace zf:=eR2 zf ho0 ho1 hb
    replace zg:=eR2 zg ho0 ho1 hb
    replace za:=bK za hb
    replace HB:=bS (qB1 HB ze) hb
    (try clear hb)
    (try clear ho0)
    (try clear ho1)
    refine hK.out _ _ (c10 za (zW HB ya)) (fun hHeld=>?_)
    clear hK K
    refine norm_ (a':=?_) ?_ ?_
    rotate_left
    ·show Act.put _ (some 83) _=_
     simp only [Act.put,sP,i64_w,i32_w]
     rfl
    refine pQ 7 76 13 255 HT_ ?_
    refine pQ 8 84 13 511 HT_ ?_
    refine pQ 9 85 13 1023 HT_ ?_
    refine oN 10 11 13 2047 HT_ (fun K hK=>?_)
    refine box_step ?hg (N:=11) ?hd (cs:=#[.int .i64 0,.slice none 0 0,.slice none 0 0]) (t:=44) ?hr ?_;(case hd=>rfl);(case hg=>rfl);(case hr=>first|(go_simp;done)|(go_simp;rfl))
    intro zd hg w41 hbox hb
    replace zf:=bR zf hb
    replace zg:=bR zg hb
    replace zv:=bR zv hb
    replace zw:=bR zw hb
    have zj:=aM (hbox)
    have zi:=gE (w:=w) hg (qB1 HB ze)
    have zk:=zi
    replace HB:=bS (qB1 HB ze) hb
    have zb:=nL hg za
    have zh:=nG hg za
    replace za:=bK za hb
    clear hb hbox hg
    refine hK.out _ _ (c10 za (zW HB ya)) (fun hHeld=>?_)
    clear hK K
    refine norm_ (a':=?_) ?_ ?_
    rotate_left
    ·show Act.put _ (some 11) _=_
     simp only [Act.put,sP,i64_w,i32_w]
     rfl
    exact norm_ (by simp only [putAll,Act.put,sP]) (hCont (.slice zay zx.length zaz,.slice z8 zy.length z9,z0,z1,zd) _ ⟨hHeld,(by(with_reducible repeat(first|apply rA|apply rN|apply rD));exact Kd.R_mono zf.out (fun _ hk=>⟨hk.1.1,⟨hk.1.2,hk.2⟩⟩)),(by(with_reducible repeat(first|apply rA|apply rN|apply rD));exact Kd.R_mono zg.out (fun _ hk=>⟨hk.1.1,⟨hk.1.2,hk.2⟩⟩)),(by(with_reducible repeat(first|apply rA|apply rN|apply rD));exact Kd.R_mono zv.out (fun _ hk=>⟨hk.1.2,⟨hk.2,hk.1.1⟩⟩)),(by(with_reducible repeat(first|apply rA|apply rN|apply rD));exact Kd.R_mono zw.out (fun _ hk=>⟨hk.1.2,⟨hk.2,hk.1.1⟩⟩)),(pK za.out),(pK zj.out),zi.out,zk.out,zb.out,zh.out,(qB2 HB ze zk)⟩)
   ·skip
    refine box_step ?hg (N:=11) ?hd (cs:=#[.int .i64 0,.slice none 0 0,.slice none 0 0]) (t:=44) ?hr ?_;(case hd=>rfl);(case hg=>rfl);(case hr=>first|(go_simp;done)|(go_simp;rfl))
    intro zd hg w38 hbox hb
    replace zf:=bR zf hb
    replace zg:=bR zg hb
    have zj:=aM (hbox)
    have zi:=gE (w:=w) hg (qB1 HB ze)
    have zk:=zi
    replace HB:=bS (qB1 HB ze) hb
    have zb:=nL hg za
    have zh:=nG hg za
    replace za:=bK za hb
    clear hb hbox hg
    obtain⟨z8,z9,zaa⟩:=Kd.R_slice zf.out
    (first|subst zaa|(injection zaa with f1_ f2_ f3_;have f4_:=f1_.symm;have f5_:=f3_.symm;clear f1_ f2_ f3_;subst f4_;subst f5_))
    obtain⟨zap,zaq,zar⟩:=Kd.R_slice zg.out
    (first|subst zar|(injection zar with f1_ f2_ f3_;have f4_:=f1_.symm;have f5_:=f3_.symm;clear f1_ f2_ f3_;subst f4_;subst f5_))
    refine hK.out _ _ (c10 za (zW HB ya)) (fun hHeld=>?_)
    clear hK K
    refine norm_ (a':=?_) ?_ ?_
    rotate_left
    ·show Act.put _ (some 11) _=_
     simp only [Act.put,sP,i64_w,i32_w]
     rfl
    refine oN 6 83 13 1151 HT_ (fun K hK=>?_)
    refine gS Try.func18 #[.int .i64 a0,.agg (aT yc yd ye yf yg yh yi yj yk ym yb.length yn),.agg #[.int .i64 z4,.slice z8 zx.length z9,.slice zap zy.length zaq]] ?_
    with_reducible refine(fbk.calls k2 a0 yc yd ye yf yg yh yi yj yk _ _ yb z4 _ _ zx _ _ zy zag zan zao zah _ ?s1 z7.out ?s3 ?s4 ?s5 ?s6 A35.out).mono ?_
    (case s1=>exact sC z6 HB)
    (case s3=>exact sR zf)
    (case s4=>exact sL zf)
    (case s5=>exact sR zg)
    (case s6=>exact sL zg)
    rintro e w41 ⟨z0,z1,rfl,ho0,ho1,hb⟩
    refine⟨_,rfl,?_⟩
    have zv:=aM (Kd.R_lower (Kd.R_new' (Kd.R_new' ho0 (Kd.R_lt (pR zf.out))) (Kd.R_lt (pR zg.out))) (below_size (qB2 HB ze zk)))
    have zw:=aM (Kd.R_lower (Kd.R_new' (Kd.R_new' ho1 (Kd.R_lt (pR zf.out))) (Kd.R_lt (pR zg.out))) (below_size (qB2 HB ze zk)))
    replace zf:=eR2 zf ho0 ho1 hb
    replace zg:=eR2 zg ho0 ho1 hb
    replace za:=bK za hb
    replace zj:=bK zj hb
    replace HB:=bS (qB2 HB ze zk) hb
    (try clear hb)
    (try clear ho0)
    (try clear ho1)
    refine hK.out _ _ (c10 za (zW HB ya)) (fun hHeld=>?_)
    clear hK K
    refine norm_ (a':=?_) ?_ ?_
    rotate_left
    ·show Act.put _ (some 83) _=_
     simp only [Act.put,sP,i64_w,i32_w]
     rfl
    refine pQ 7 76 13 1279 HT_ ?_
    refine pQ 8 84 13 1535 HT_ ?_
    refine pQ 9 85 13 2047 HT_ ?_
    exact norm_ (by simp only [putAll,Act.put,sP]) (hCont (.slice z8 zx.length z9,.slice zap zy.length zaq,z0,z1,zd) _ ⟨hHeld,(by(with_reducible repeat(first|apply rA|apply rN|apply rD));exact Kd.R_mono zf.out (fun _ hk=>⟨hk.1.1,⟨hk.1.2,hk.2⟩⟩)),(by(with_reducible repeat(first|apply rA|apply rN|apply rD));exact Kd.R_mono zg.out (fun _ hk=>⟨hk.1.1,⟨hk.1.2,hk.2⟩⟩)),(by(with_reducible repeat(first|apply rA|apply rN|apply rD));exact Kd.R_mono zv.out (fun _ hk=>⟨hk.1.2,⟨hk.2,hk.1.1⟩⟩)),(by(with_reducible repeat(first|apply rA|apply rN|apply rD));exact Kd.R_mono zw.out (fun _ hk=>⟨hk.1.2,⟨hk.2,hk.1.1⟩⟩)),(pK za.out),(pK zj.out),zi.out,zk.out,zb.out,zh.out,(qB2 HB ze zk)⟩)
  ·skip
   refine box_step ?hg (N:=11) ?hd (cs:=#[.int .i64 0,.slice none 0 0,.slice none 0 0]) (t:=44) ?hr ?_;(case hd=>rfl);(case hg=>rfl);(case hr=>first|(go_simp;done)|(go_simp;rfl))
   intro zd hg w37 hbox hb
   have zj:=aM (hbox)
   have zi:=gE (w:=w) hg (qB1 HB ze)
   have zk:=zi
   replace HB:=bS (qB1 HB ze) hb
   have zb:=nL hg za
   have zh:=nG hg za
   replace za:=bK za hb
   clear hb hbox hg
   refine hK.out _ _ (c10 za (zW HB ya)) (fun hHeld=>?_)
   clear hK K
   refine norm_ (a':=?_) ?_ ?_
   rotate_left
   ·show Act.put _ (some 11) _=_
    simp only [Act.put,sP,i64_w,i32_w]
    rfl
   refine oN 5 82 13 1087 HT_ (fun K hK=>?_)
   refine gS Try.func35 #[.slice y0 (rd_L1 l2 0).length y1] ?_
   with_reducible refine(fcj.calls k2 _ _ (rd_L1 l2 0) z4 zx zy _ ?s1 zaf.out A34.out).mono ?_
   (case s1=>exact sC z5 HB)
   rintro e w38 ⟨zai,zaj,rfl,ho0,ho1,hb⟩
   refine⟨_,rfl,?_⟩
   have zf:=aM (Kd.R_lower ho0 (below_size (qB2 HB ze zk)))
   have zg:=aM (Kd.R_lower ho1 (below_size (qB2 HB ze zk)))
   replace za:=bK za hb
   replace zj:=bK zj hb
   replace HB:=bS (qB2 HB ze zk) hb
   (try clear hb)
   (try clear ho0)
   (try clear ho1)
   obtain⟨z8,z9,zaa⟩:=Kd.R_slice zf.out
   (first|subst zaa|(injection zaa with f1_ f2_ f3_;have f4_:=f1_.symm;have f5_:=f3_.symm;clear f1_ f2_ f3_;subst f4_;subst f5_))
   obtain⟨zap,zaq,zar⟩:=Kd.R_slice zg.out
   (first|subst zar|(injection zar with f1_ f2_ f3_;have f4_:=f1_.symm;have f5_:=f3_.symm;clear f1_ f2_ f3_;subst f4_;subst f5_))
   refine hK.out _ _ (c10 za (zW HB ya)) (fun hHeld=>?_)
   clear hK K
   refine norm_ (a':=?_) ?_ ?_
   rotate_left
   ·show Act.put _ (some 82) _=_
    simp only [Act.put,sP,i64_w,i32_w]
    rfl
   refine oN 6 83 13 1151 HT_ (fun K hK=>?_)
   refine gS Try.func18 #[.int .i64 a0,.agg (aT yc yd ye yf yg yh yi yj yk ym yb.length yn),.agg #[.int .i64 z4,.slice z8 zx.length z9,.slice zap zy.length zaq]] ?_
   with_reducible refine(fbk.calls k2 a0 yc yd ye yf yg yh yi yj yk _ _ yb z4 _ _ zx _ _ zy zag zan zao zah _ ?s1 z7.out ?s3 ?s4 ?s5 ?s6 A35.out).mono ?_
   (case s1=>exact sC z6 HB)
   (case s3=>exact sR zf)
   (case s4=>exact sL zf)
   (case s5=>exact sR zg)
   (case s6=>exact sL zg)
   rintro e w41 ⟨z0,z1,rfl,ho0,ho1,hb⟩
   refine⟨_,rfl,?_⟩
   have zv:=aM (Kd.R_lower (Kd.R_new' (Kd.R_new' ho0 (Kd.R_lt (pR zf.out))) (Kd.R_lt (pR zg.out))) (below_size (qB2 HB ze zk)))
   have zw:=aM (Kd.R_lower (Kd.R_new' (Kd.R_new' ho1 (Kd.R_lt (pR zf.out))) (Kd.R_lt (pR zg.out))) (below_size (qB2 HB ze zk)))
   replace zf:=eR2 zf ho0 ho1 hb
   replace zg:=eR2 zg ho0 ho1 hb
   replace za:=bK za hb
   replace zj:=bK zj hb
   replace HB:=bS (qB2 HB ze zk) hb
   (try clear hb)
   (try clear ho0)
   (try clear ho1)
   refine hK.out _ _ (c10 za (zW HB ya)) (fun hHeld=>?_)
   clear hK K
   refine norm_ (a':=?_) ?_ ?_
   rotate_left
   ·show Act.put _ (some 83) _=_
    simp only [Act.put,sP,i64_w,i32_w]
    rfl
   refine pQ 7 76 13 1279 HT_ ?_
   refine pQ 8 84 13 1535 HT_ ?_
   refine pQ 9 85 13 2047 HT_ ?_
   exact norm_ (by simp only [putAll,Act.put,sP]) (hCont (.slice z8 zx.length z9,.slice zap zy.length zaq,z0,z1,zd) _ ⟨hHeld,(by(with_reducible repeat(first|apply rA|apply rN|apply rD));exact Kd.R_mono zf.out (fun _ hk=>⟨hk.1.1,⟨hk.1.2,hk.2⟩⟩)),(by(with_reducible repeat(first|apply rA|apply rN|apply rD));exact Kd.R_mono zg.out (fun _ hk=>⟨hk.1.1,⟨hk.1.2,hk.2⟩⟩)),(by(with_reducible repeat(first|apply rA|apply rN|apply rD));exact Kd.R_mono zv.out (fun _ hk=>⟨hk.1.2,⟨hk.2,hk.1.1⟩⟩)),(by(with_reducible repeat(first|apply rA|apply rN|apply rD));exact Kd.R_mono zw.out (fun _ hk=>⟨hk.1.2,⟨hk.2,hk.1.1⟩⟩)),(pK za.out),(pK zj.out),zi.out,zk.out,zb.out,zh.out,(qB2 HB ze zk)⟩)
 rintro⟨zai,zaj,z0,z1,zd⟩ w42 ⟨hS_,h0_,h1_,h2_,h3_,h4_,h5_,h6_,h7_,h8_,h9_,h10_⟩
 have n0_:Aside0 (Kd.R (Kd.int .i64) 3 w42 w.heap.size (fun k_=>some k_≠(zaj:Value).ownBlock∧some k_≠(z0:Value).ownBlock∧some k_≠(z1:Value).ownBlock) zai zx):=⟨h0_⟩
 have n1_:Aside0 (Kd.R (Kd.int .i64) 3 w42 w.heap.size (fun k_=>some k_≠(zai:Value).ownBlock∧some k_≠(z0:Value).ownBlock∧some k_≠(z1:Value).ownBlock) zaj zy):=⟨h1_⟩
 have n2_:Aside0 (Kd.R (Kd.int .i64) 3 w42 w.heap.size (fun k_=>some k_≠(zai:Value).ownBlock∧some k_≠(zaj:Value).ownBlock∧some k_≠(z1:Value).ownBlock) z0 zan):=⟨h2_⟩
 have n3_:Aside0 (Kd.R (Kd.int .i64) 3 w42 w.heap.size (fun k_=>some k_≠(zai:Value).ownBlock∧some k_≠(zaj:Value).ownBlock∧some k_≠(z0:Value).ownBlock) z1 zao):=⟨h3_⟩
 have n4_:Aside0 (w42.heap[zc]?=some (.cells (aT yc yd ye yf yg yh yi yj yk ym yb.length yn) 24 (0,0))):=⟨h4_⟩
 have n5_:Aside0 (w42.heap[zd]?=some (.cells #[.int .i64 0,.slice none 0 0,.slice none 0 0] 44 (0,0))):=⟨h5_⟩
 have n6_:Aside0 (w.heap.size≤zd):=⟨h6_⟩
 have n7_:Aside0 (w.heap.size≤zd):=⟨h7_⟩
 have n8_:Aside0 (zc≠zd):=⟨h8_⟩
 have n9_:Aside0 (zd≠zc):=⟨h9_⟩
 have n10_:Aside0 (Below w.heap.size w w42):=⟨h10_⟩
 clear za
 clear HB
 clear h0_ h1_ h2_ h3_ h4_ h5_ h6_ h7_ h8_ h9_ h10_
 have zf:=n0_
 have zg:=n1_
 have zv:=n2_
 have zw:=n3_
 have za:=n4_
 have zj:=n5_
 have zi:=n6_
 have zk:=n7_
 have zb:=n8_
 have zh:=n9_
 have HB:=n10_
 clear n0_ n1_ n2_ n3_ n4_ n5_ n6_ n7_ n8_ n9_ n10_
 have hHeld:w42.cell? ⟨zc,0,none⟩=some (.int .i64 yc)∧w42.cell? ⟨zc,1,none⟩=some (.int .i64 yd)∧w42.cell? ⟨zc,2,none⟩=some (.int .i64 ye)∧w42.cell? ⟨zc,3,none⟩=some (.int .i64 yf)∧w42.cell? ⟨zc,4,none⟩=some (.int .i64 yg)∧w42.cell? ⟨zc,5,none⟩=some (.int .i64 yh)∧w42.cell? ⟨zc,6,none⟩=some (.int .i64 yi)∧w42.cell? ⟨zc,7,none⟩=some (.int .i64 yj)∧w42.cell? ⟨zc,8,none⟩=some (.bool yk)∧w42.cell? ⟨zc,9,none⟩=some (.slice ym yb.length yn)∧w42.cell? yao=some (.slice y0 (rd_L1 l2 0).length y1):=hS_
 obtain⟨Ao44,co44,za1⟩:=Kd.R_slice zv.out
 (first|subst za1|(injection za1 with f1_ f2_ f3_;have f4_:=f1_.symm;have f5_:=f3_.symm;clear f1_ f2_ f3_;subst f4_;subst f5_))
 obtain⟨Ao46,co46,za2⟩:=Kd.R_slice zw.out
 (first|subst za2|(injection za2 with f1_ f2_ f3_;have f4_:=f1_.symm;have f5_:=f3_.symm;clear f1_ f2_ f3_;subst f4_;subst f5_))
 refine norm_ (a':=?_) ?_ ?_
 rotate_left
 ·simp only [putAll,Act.put,sP]
  rfl
 refine one_ (i:=11) (N:=none) (bm 13 4095) rfl rfl (one_of HT_.out (by kernel_rfl)) (by decide) (fun K hK=>?_)
 have hs43:w42.cell? ⟨zd,0,none⟩=some (.int .i64 0):=(blk_cell zj.out 0).trans rfl
 have hfs43:=blk_frozen zj.out 0
 have hns43_0:=zb.out
 have hms43_0:=zh.out
 have hs45:w42.cell? ⟨zd,1,none⟩=some (.slice none 0 0):=(blk_cell zj.out 1).trans rfl
 have hfs45:=blk_frozen zj.out 1
 have hns45_0:=zb.out
 have hms45_0:=zh.out
 have hs47:w42.cell? ⟨zd,2,none⟩=some (.slice none 0 0):=(blk_cell zj.out 2).trans rfl
 have hfs47:=blk_frozen zj.out 2
 have hns47_0:=zb.out
 have hms47_0:=zh.out
 refine skip_ (w1:=?_) (by rfl) rfl ?_ ?_
 rotate_left
 ·go_simp
  rfl
 refine hK.out _ _ ⟨((cell_far (p:=⟨zd,_,none⟩) zb.out _).trans (((cell_far (p:=⟨zd,_,none⟩) zb.out _).trans (((cell_far (p:=⟨zd,_,none⟩) zb.out _).trans (hHeld.1)))))),((cell_far (p:=⟨zd,_,none⟩) zb.out _).trans (((cell_far (p:=⟨zd,_,none⟩) zb.out _).trans (((cell_far (p:=⟨zd,_,none⟩) zb.out _).trans (hHeld.2.1)))))),((cell_far (p:=⟨zd,_,none⟩) zb.out _).trans (((cell_far (p:=⟨zd,_,none⟩) zb.out _).trans (((cell_far (p:=⟨zd,_,none⟩) zb.out _).trans (hHeld.2.2.1)))))),((cell_far (p:=⟨zd,_,none⟩) zb.out _).trans (((cell_far (p:=⟨zd,_,none⟩) zb.out _).trans (((cell_far (p:=⟨zd,_,none⟩) zb.out _).trans (hHeld.2.2.2.1)))))),((cell_far (p:=⟨zd,_,none⟩) zb.out _).trans (((cell_far (p:=⟨zd,_,none⟩) zb.out _).trans (((cell_far (p:=⟨zd,_,none⟩) zb.out _).trans (hHeld.2.2.2.2.1)))))),((cell_far (p:=⟨zd,_,none⟩) zb.out _).trans (((cell_far (p:=⟨zd,_,none⟩) zb.out _).trans (((cell_far (p:=⟨zd,_,none⟩) zb.out _).trans (hHeld.2.2.2.2.2.1)))))),((cell_far (p:=⟨zd,_,none⟩) zb.out _).trans (((cell_far (p:=⟨zd,_,none⟩) zb.out _).trans (((cell_far (p:=⟨zd,_,none⟩) zb.out _).trans (hHeld.2.2.2.2.2.2.1)))))),((cell_far (p:=⟨zd,_,none⟩) zb.out _).trans (((cell_far (p:=⟨zd,_,none⟩) zb.out _).trans (((cell_far (p:=⟨zd,_,none⟩) zb.out _).trans (hHeld.2.2.2.2.2.2.2.1)))))),((cell_far (p:=⟨zd,_,none⟩) zb.out _).trans (((cell_far (p:=⟨zd,_,none⟩) zb.out _).trans (((cell_far (p:=⟨zd,_,none⟩) zb.out _).trans (hHeld.2.2.2.2.2.2.2.2.1)))))),((cell_far (p:=⟨zd,_,none⟩) zb.out _).trans (((cell_far (p:=⟨zd,_,none⟩) zb.out _).trans (((cell_far (p:=⟨zd,_,none⟩) zb.out _).trans (hHeld.2.2.2.2.2.2.2.2.2.1)))))),((cell_far (p:=⟨zd,_,none⟩) (by first|exact Nat.ne_of_lt (Nat.lt_of_lt_of_le (by have:=World.block_lt_of_cell? _ _ ya;first|rwa [add_block] at this|exact this) zi.out)|(rw [add_block];exact Nat.ne_of_lt (Nat.lt_of_lt_of_le (by have:=World.block_lt_of_cell? _ _ ya;first|rwa [add_block] at this|exact this) zi.out))|(show (Addr.add _ _).block≠_;rw [add_block];exact Nat.ne_of_lt (Nat.lt_of_lt_of_le (by have:=World.block_lt_of_cell? _ _ ya;first|rwa [add_block] at this|exact this) zi.out))|(dsimp only;exact Nat.ne_of_lt (Nat.lt_of_lt_of_le (by have:=World.block_lt_of_cell? _ _ ya;first|rwa [add_block] at this|exact this) zi.out))) _).trans (((cell_far (p:=⟨zd,_,none⟩) (by first|exact Nat.ne_of_lt (Nat.lt_of_lt_of_le (by have:=World.block_lt_of_cell? _ _ ya;first|rwa [add_block] at this|exact this) zi.out)|(rw [add_block];exact Nat.ne_of_lt (Nat.lt_of_lt_of_le (by have:=World.block_lt_of_cell? _ _ ya;first|rwa [add_block] at this|exact this) zi.out))|(show (Addr.add _ _).block≠_;rw [add_block];exact Nat.ne_of_lt (Nat.lt_of_lt_of_le (by have:=World.block_lt_of_cell? _ _ ya;first|rwa [add_block] at this|exact this) zi.out))|(dsimp only;exact Nat.ne_of_lt (Nat.lt_of_lt_of_le (by have:=World.block_lt_of_cell? _ _ ya;first|rwa [add_block] at this|exact this) zi.out))) _).trans (((cell_far (p:=⟨zd,_,none⟩) (by first|exact Nat.ne_of_lt (Nat.lt_of_lt_of_le (by have:=World.block_lt_of_cell? _ _ ya;first|rwa [add_block] at this|exact this) zi.out)|(rw [add_block];exact Nat.ne_of_lt (Nat.lt_of_lt_of_le (by have:=World.block_lt_of_cell? _ _ ya;first|rwa [add_block] at this|exact this) zi.out))|(show (Addr.add _ _).block≠_;rw [add_block];exact Nat.ne_of_lt (Nat.lt_of_lt_of_le (by have:=World.block_lt_of_cell? _ _ ya;first|rwa [add_block] at this|exact this) zi.out))|(dsimp only;exact Nat.ne_of_lt (Nat.lt_of_lt_of_le (by have:=World.block_lt_of_cell? _ _ ya;first|rwa [add_block] at this|exact this) zi.out))) _).trans (hHeld.2.2.2.2.2.2.2.2.2.2))))))⟩ (fun hHeld=>?_)
 clear hK K
 refine pQ 12 12 13 8191 HT_ ?_
 refine dN HT_ ?_
 have hnb48:=zh.out
 have hnc48:=zb.out
 have hcz49:=blk3 zj.out
 try go_wp2
 go_ret2
 exact⟨_,pE,by(with_reducible repeat(first|apply rA|apply rN|apply rD));exact F3 zv zj (fun _ hk=>trivial),qB2 HB ze zk⟩
mutual
def fcn.j0:Nat→List Int→Int→Bool→Option (List Int×Bool)
 | 0,_,_,_=>none
 | k + 1,x0,x1,x15=>if x15=true then(some (([]:List Int),false))else(if 0≤(x0.length:Int)then(if((x0.length:Int):Int).toNat≤35184372088832 then(fcn.l0 k x0 x1 (List.replicate ((x0.length:Int):Int).toNat 0) (wrap64 ((x0.length:Int) - 1)))else(none))else(none))
def fcn.l0:Nat→List Int→Int→List Int→Int→Option (List Int×Bool)
 | 0,_,_,_,_=>none
 | k + 1,x0,x1,x6,x7=>if x7 ≥ 0 then(if 0≤x7 then(if x7 < (x0.length:Int)then(if(rd x0 x7)=0 then(none)else(if x7 < (x6.length:Int)then(fcn.l0 k x0 (wrap64 (Int.tdiv x1 (rd x0 x7))) (x6.set (x7:Int).toNat (Int.tmod x1 (rd x0 x7))) (wrap64 (x7 - 1)))else(none)))else(none))else(none))else(some (x6,true))
end
def fcn.f (k:Nat) (l0:List Int) (a1:Int):Option (List Int×Bool):=if a1 < 0 then(fcn.j0 k l0 a1 true)else((fbr.f k l0).bind fun za=>(fcn.j0 k l0 a1 (decide (a1 ≥ za))))
theorem fcn.calls (k:Nat)(A0:Option Addr)(c0:Nat)(l0:List Int) (a1:Int)(r1:List Int)(r2:Bool)(w:World)(hr0:Kd.C (Kd.int .i64) w A0 l0.length l0)(hc0:l0.length≤c0)(h:fcn.f k l0 a1=some (r1,r2)) :
  Calls Try.prog 39 #[.slice A0 l0.length c0,.int .i64 a1] w fun e w'=>∃ v0_:Value,e=.returned (.tuple #[v0_,.bool r2])∧Kd.R (Kd.int .i64) 3 w' w.heap.size (fun _=>True) v0_ r1∧Below w.heap.size w w':=by
 have HR0:=aM hr0
 have HC0:=aM hc0
 clear hr0 hc0
 have HB:=aM (Below.refl w.heap.size w)
 have H:(if a1 < 0 then(fcn.j0 k l0 a1 true)else((fbr.f k l0).bind fun za=>(fcn.j0 k l0 a1 (decide (a1 ≥ za)))))=some (r1,r2):=h
 clear h
 have HC3:=aM H
 clear H
 go_enter Try.func39,Try.ntmps39
 go_upto_region 1 with(fail)
 go_cut [15] (fun v15 wc=>∃ (kq:Nat) (yd:Bool),v15=.bool yd∧Aside0 (fcn.j0 kq l0 a1 yd=some (r1,r2))∧Aside0 (kq≤k)∧Aside0 (Below w.heap.size w wc))
 case first =>
  have H:=HC3.out
  clear HC3
  by_cases c4:a1 < 0
  ·rw [ip c4] at H
   have zc:=dT c4
   clear c4
   (first|rw [zc]|(simp only [i64_w,i32_w];rw [zc])|skip)
   have H':=aM H
   clear H
   go_wp2
   go_meet
   case rel=>exact⟨_,(true),(pF),H',⟨pO⟩,⟨qB HB⟩⟩
  rw [iN c4] at H
  have zc:=dF c4
  clear c4
  (first|rw [zc]|(simp only [i64_w,i32_w];rw [zc])|skip)
  replace H:=oB H
  obtain⟨za,A50,H⟩:=H
  try dsimp only at H
  have A5:=aM A50
  clear A50
  have H':=aM H
  clear H
  go_wp2_with (first|(go_at_call 67;(with_reducible refine(fbr.calls k _ _ l0 za _ ?s1 HC0.out A5.out).mono ?_);(case s1=>exact sC HR0 HB);rintro e w' ⟨rfl,⟨nd,rfl⟩⟩))
  go_meet
  case rel=>exact⟨_,(decide (a1 ≥ za)),(pF),H',⟨pO⟩,⟨qB HB⟩⟩
 clear HC3
 obtain⟨kq,yd,rfl,HA,HJ2,HB⟩:=hcut
 cases kq with
 | zero=>exact absurd HA.out (by simp [fcn.j0])
 | succ kj2=>?_
 have H:=HA.out
 clear HA
 simp only [fcn.j0] at H
 by_cases c6:yd=true
 ·subst c6
  rw [ip rfl] at H
  replace H:=oi2 H
  obtain⟨rfl,rfl⟩:=H
  go_wp2
  go_ret2
  exact⟨_,pE,pN,qB HB⟩
 replace c6:=Bool.eq_false_iff.mpr c6
 subst c6
 rw [iN (show ¬ (false=true) by decide)] at H
 by_cases c7:0≤(l0.length:Int)
 rotate_left
 ·rw [iN c7] at H
  cases H
 rw [ip c7] at H
 have yk:=eq_true c7
 have yl:=dT c7
 clear c7
 by_cases c8:((l0.length:Int):Int).toNat≤35184372088832
 rotate_left
 ·rw [iN c8] at H
  cases H
 rw [ip c8] at H
 have ym:=eq_true c8
 have yn:=dT c8
 clear c8
 obtain⟨zh,zd⟩:∃ y_:List Int,y_=(List.replicate ((l0.length:Int):Int).toNat 0):=⟨_,rfl⟩
 replace H:(fcn.l0 kj2 l0 a1 zh (wrap64 ((l0.length:Int) - 1)))=some (r1,r2):=pH zd H
 have zf:=aM zd
 clear zd
 have H':=aM H
 clear H
 go_wp2_with (first|((with_reducible refine gD 18 rfl ?_);refine Kd.R_make (Kd.int .i64) _ 3 rfl (N:=18) rfl 22 _ _ rfl (l0.length:Int) rfl rfl Try.underlying22 (.int .i64 0) 8 info3 rfl (by decide) (by omega) 0 (ok:=fun _=>True) (okp:=fun _=>True) rfl (fun _ hk=>hk) trivial (of_decide_eq_true pD) (Nat.le_trans (Nat.mul_le_mul_right _ (of_decide_eq_true pD:(l0.length:Int).toNat≤35184372088832)) (by omega)) (Below.refl _ _) (Nat.le_refl _) ?_;intro v365 w9 ho10 hb hg_ hnew_;clear hg_ hnew_;(first|rw [← zf.out] at ho10|(simp only [Int.reduceToNat] at ho10;rw [← zf.out] at ho10));have HO366:=aM (Kd.R_lower ho10 (below_size (qB HB)));replace HB:=bS (qB HB) hb;clear hb ho10))
 go_loopg [1,7] kj2 (fun kq v1 v7 w'=>∃ (yb:Int) (yc:List Int) (ya:Int),v1=.int .i64 yb∧v7=.int .i64 ya∧Aside0 (fcn.l0 kq l0 yb yc ya=some (r1,r2))∧Aside0 (kq≤kj2)∧Aside0 (Kd.R (Kd.int .i64) 3 w' w.heap.size (fun _=>True) v365 yc)∧Aside0 (Below w.heap.size w w'))
 case atStart=>exact⟨(a1),(zh),(wrap64 ((l0.length:Int) - 1)),(pF),(pF),H',⟨Nat.le_refl _⟩,⟨pR HO366.out⟩,⟨qB HB⟩⟩
 clear H'
 try clear c6
 try clear yk
 try clear yl
 try clear ym
 try clear yn
 obtain⟨yb,yc,ya,rfl,rfl,HA,HK2,zb,HB⟩:=hrel
 cases gk with
 | zero=>exact absurd HA.out (by simp [fcn.l0])
 | succ k2=>?_
 have H:=HA.out
 clear HA
 simp only [fcn.l0] at H
 by_cases c11:ya ≥ 0
 rotate_left
 ·rw [iN c11] at H
  have yh:decide (0≤ya)=false:=decide_eq_false c11
  clear c11
  replace H:=oi2 H
  obtain⟨rfl,rfl⟩:=H
  go_wp2
  go_ret2
  exact⟨_,pE,pR zb.out,qB HB⟩
 rw [ip c11] at H
 have yh:decide (0≤ya)=true:=decide_eq_true c11
 clear c11
 by_cases c12:0≤ya
 rotate_left
 ·rw [iN c12] at H
  cases H
 rw [ip c12] at H
 have c12b0:=dT c12
 clear c12
 by_cases c13:ya < (l0.length:Int)
 rotate_left
 ·rw [iN c13] at H
  cases H
 rw [ip c13] at H
 have c13b0:=dT c13
 clear c13
 by_cases c14:(rd l0 ya)=0
 ·rw [ip c14] at H
  cases H
 rw [iN c14] at H
 have c14b0:=bF c14
 have c14b1:=nT c14
 by_cases c15:ya < (yc.length:Int)
 rotate_left
 ·rw [iN c15] at H
  cases H
 rw [ip c15] at H
 have c15b0:=dT c15
 clear c15
 obtain⟨zg,ze⟩:∃ y_:List Int,y_=(yc.set (ya:Int).toNat (Int.tmod yb (rd l0 ya))):=⟨_,rfl⟩
 replace H:(fcn.l0 k2 l0 (wrap64 (Int.tdiv yb (rd l0 ya))) zg (wrap64 (ya - 1)))=some (r1,r2):=pH ze H
 have Ny368:=aM ze
 clear ze
 have H':=aM H
 clear H
 obtain⟨yi,⟨⟩,ye,p367,q367⟩:=zI HR0.out ya
 replace ye:=zW HB ye
 have yq:0≤(ya:Int):=oD
 have yr:(ya:Int) < ((yc.length:Int):Int):=oD
 obtain⟨yg,yo,zi,zj,gl16,cl16,HG16⟩:=Kd.R_form zb.out (by omega)
 (first|cases zi|(injection zi with ea_ en_ ec_;(first|subst ea_|(injection ea_ with ea_;subst ea_));subst ec_;clear en_))
 have GB16:=aM zj
 have GG16:=aM HG16
 clear zj gl16 HG16
 obtain⟨hx16_0,hf16_0⟩:=Kd.R_celln 0 zb.out (ya:Int) yq yr
 have HP17:=Kd.R_putg zb.out (ya:Int) (Int.tmod yb (rd l0 ya))
 go_wp2_with (first|((with_reducible refine gate_store (t:=3) (p:=34) rfl ?_);refine store_event (t:=3) (p:=34) (v:=?vo_w18) (w1:=(wr.setCell ⟨yg,(ya:Int).toNat,none⟩ (.int .i64 (Int.tmod yb (rd l0 ya))))) ?hg ?ho ?hn ?hr ?_;(case ho=>rfl);(case hg=>rfl);(case hn=>rfl);(case hr=>first|(go_simp;done)|(go_simp;rfl));intro w18 hw;have hg:wr.grownBy w18 (some yg):=(by rw [hw];exact HP17.2);have hp_:Kd.R (Kd.int .i64) 3 w18 w.heap.size (fun _=>True) (.slice (some ⟨yg,0,none⟩) yc.length yo) zg:=(by rw [hw,Ny368.out];exact HP17.1);clear HP17;replace zb:=aM (hp_);replace HB:=aM ((by rw [hw];exact below_set (HB.out) GB16.out:Below w.heap.size w w18));clear hg hw hp_;obtain⟨yj,yp,yf,p369,q369⟩:=zI HR0.out ya;obtain rfl:yi=yj:=(by injection yp);replace yf:=zW HB yf))
 go_roundg k2
 case measure=>have:=HJ2.out;have:=HK2.out;omega
 case rel=>exact⟨(wrap64 (Int.tdiv yb (rd l0 ya))),(zg),(wrap64 (ya - 1)),(pF),(pF),H',⟨pO2 HJ2 HK2⟩,⟨pR zb.out⟩,⟨qB HB⟩⟩
mutual
def fcp.j0:Nat→List Int→List Int→Bool→Option (Bool)
 | 0,_,_,_=>none
 | k + 1,x0,x1,x16=>if x16=true then(some false)else(fcp.l0 k x0 x1 (x1.length:Int) 0)
def fcp.l0:Nat→List Int→List Int→Int→Int→Option (Bool)
 | 0,_,_,_,_=>none
 | k + 1,x0,x17,x18,x19=>if x19 < x18 then(if 0≤x19 then(if x19 < (x17.length:Int)then(if(rd x17 x19) < 0 then(some false)else(if x19 < (x0.length:Int)then(if(rd x17 x19) ≥ (rd x0 x19)then(some false)else(fcp.l0 k x0 x17 x18 (wrap64 (x19 + 1))))else(none)))else(none))else(none))else(some true)
end
def fcp.f (k:Nat) (l0:List Int) (l1:List Int):Option (Bool):=(fbq.f l0).bind fun za=>(if za=0 then(fcp.j0 k l0 l1 ((l1.length:Int) != (l0.length:Int)))else(fcp.j0 k l0 l1 true))
theorem fcp.calls (k:Nat)(A0:Option Addr)(c0:Nat)(l0:List Int)(A1:Option Addr)(c1:Nat)(l1:List Int)(r:Bool)(w:World)(hr0:Kd.C (Kd.int .i64) w A0 l0.length l0)(hc0:l0.length≤c0)(hr1:Kd.C (Kd.int .i64) w A1 l1.length l1)(hc1:l1.length≤c1)(h:fcp.f k l0 l1=some r) :
  Calls Try.prog 69 #[.slice A0 l0.length c0,.slice A1 l1.length c1] w fun e w'=>e=.returned (.bool r)∧Drawn0 w w':=by
 have HR0:=aM hr0
 have HC0:=aM hc0
 clear hr0 hc0
 have HR1:=aM hr1
 have HC1:=aM hc1
 clear hr1 hc1
 have H:((fbq.f l0).bind fun za=>(if za=0 then(fcp.j0 k l0 l1 ((l1.length:Int) != (l0.length:Int)))else(fcp.j0 k l0 l1 true)))=some r:=h
 clear h
 have HC3:=aM H
 clear H
 go_enter Try.func69,Try.ntmps69
 go_upto_region 1 with(fail)
 go_cut [16] (fun v16 wc=>∃ (kq:Nat) (yb:Bool),v16=.bool yb∧Aside0 (fcp.j0 kq l0 l1 yb=some r)∧Aside0 (kq≤k)∧Drawn0 w wc)
 case first =>
  have H:=HC3.out
  clear HC3
  replace H:=oB H
  obtain⟨za,A40,H⟩:=H
  try dsimp only at H
  have A4:=aM A40
  clear A40
  by_cases c5:za=0
  rotate_left
  ·rw [iN c5] at H
   have zb:=bF c5
   have yk:=nT c5
   (first|rw [zb]|(simp only [i64_w,i32_w];rw [zb])|skip)
   have H':=aM H
   clear H
   go_wp2_with (first|((with_reducible refine gC 31 rfl ?_);refine gL 8 Try.func31 #[.slice A0 l0.length c0] ?_;(with_reducible refine(fbq.calls _ _ l0 za _ ?s1 HC0.out A4.out).mono ?_);(case s1=>exact pC HR0.out);rintro e w' ⟨rfl,⟨nd,rfl⟩⟩;refine⟨_,rfl,?_⟩))
   go_meet
   case rel=>exact⟨_,(true),(pF),H',⟨pO⟩,by repeat(first|exact Drawn0.refl _|apply Drawn0.step)⟩
  rw [ip c5] at H
  have zb:=bT c5
  have yk:=nF c5
  clear c5
  (first|rw [zb]|(simp only [i64_w,i32_w];rw [zb])|skip)
  have H':=aM H
  clear H
  go_wp2_with (first|((with_reducible refine gC 31 rfl ?_);refine gL 8 Try.func31 #[.slice A0 l0.length c0] ?_;(with_reducible refine(fbq.calls _ _ l0 za _ ?s1 HC0.out A4.out).mono ?_);(case s1=>exact pC HR0.out);rintro e w' ⟨rfl,⟨nd,rfl⟩⟩;refine⟨_,rfl,?_⟩))
  go_meet
  case rel=>exact⟨_,(((l1.length:Int) != (l0.length:Int))),(pF),H',⟨pO⟩,by repeat(first|exact Drawn0.refl _|apply Drawn0.step)⟩
 clear HC3
 try clear c1
 obtain⟨kq,yb,rfl,HA,HJ2,⟨mc2,rfl⟩⟩:=hcut
 cases kq with
 | zero=>exact absurd HA.out (by simp [fcp.j0])
 | succ kj2=>?_
 have H:=HA.out
 clear HA
 simp only [fcp.j0] at H
 by_cases c6:yb=true
 ·subst c6
  rw [ip rfl] at H
  obtain rfl:=Option.some.inj H
  go_wp2
  go_ret
  exact⟨pF,by repeat(first|exact Drawn0.refl _|apply Drawn0.step)⟩
 replace c6:=Bool.eq_false_iff.mpr c6
 subst c6
 rw [iN (show ¬ (false=true) by decide)] at H
 have H':=aM H
 clear H
 go_wp2
 go_loopg [19] kj2 (fun kq v19 w'=>∃ (ya:Int),v19=.int .i64 ya∧Aside0 (fcp.l0 kq l0 l1 (l1.length:Int) ya=some r)∧Aside0 (kq≤kj2)∧Drawn0 w w')
 case atStart=>exact⟨(0),(pF),H',⟨Nat.le_refl _⟩,by repeat(first|exact Drawn0.refl _|apply Drawn0.step)⟩
 clear H'
 try clear c6
 obtain⟨ya,rfl,HA,HK2,⟨m2,rfl⟩⟩:=hrel
 cases gk with
 | zero=>exact absurd HA.out (by simp [fcp.l0])
 | succ k2=>?_
 have H:=HA.out
 clear HA
 simp only [fcp.l0] at H
 by_cases c7:ya < (l1.length:Int)
 rotate_left
 ·rw [iN c7] at H
  have yl:=dF c7
  clear c7
  obtain rfl:=Option.some.inj H
  go_wp2
  go_ret
  exact⟨pF,by repeat(first|exact Drawn0.refl _|apply Drawn0.step)⟩
 rw [ip c7] at H
 have yl:=dT c7
 clear c7
 by_cases c8:0≤ya
 rotate_left
 ·rw [iN c8] at H
  cases H
 rw [ip c8] at H
 have c8b0:=dT c8
 clear c8
 by_cases c9:ya < (l1.length:Int)
 rotate_left
 ·rw [iN c9] at H
  cases H
 rw [ip c9] at H
 have c9b0:=dT c9
 clear c9
 by_cases c10:(rd l1 ya) < 0
 ·rw [ip c10] at H
  have yf:=dT c10
  clear c10
  obtain rfl:=Option.some.inj H
  obtain⟨ye,⟨⟩,yc,yg,yh⟩:=zI HR1.out ya
  go_wp2
  go_ret
  exact⟨pF,by repeat(first|exact Drawn0.refl _|apply Drawn0.step)⟩
 rw [iN c10] at H
 have yf:=dF c10
 clear c10
 by_cases c11:ya < (l0.length:Int)
 rotate_left
 ·rw [iN c11] at H
  cases H
 rw [ip c11] at H
 have c11b0:=dT c11
 clear c11
 by_cases c12:(rd l1 ya) ≥ (rd l0 ya)
 ·rw [ip c12] at H
  have yi:decide ((rd l0 ya)≤(rd l1 ya))=true:=decide_eq_true c12
  clear c12
  obtain rfl:=Option.some.inj H
  obtain⟨ye,⟨⟩,yc,yg,yh⟩:=zI HR1.out ya
  obtain⟨yj,⟨⟩,yd,ym,yn⟩:=zI HR0.out ya
  go_wp2
  go_ret
  exact⟨pF,by repeat(first|exact Drawn0.refl _|apply Drawn0.step)⟩
 rw [iN c12] at H
 have yi:decide ((rd l0 ya)≤(rd l1 ya))=false:=decide_eq_false c12
 clear c12
 have H':=aM H
 clear H
 obtain⟨ye,⟨⟩,yc,yg,yh⟩:=zI HR1.out ya
 obtain⟨yj,⟨⟩,yd,ym,yn⟩:=zI HR0.out ya
 go_wp2
 go_roundg k2
 case measure=>have:=HJ2.out;have:=HK2.out;omega
 case rel=>exact⟨(wrap64 (ya + 1)),(pF),H',⟨pO2 HJ2 HK2⟩,by repeat(first|exact Drawn0.refl _|apply Drawn0.step)⟩
def fco.l0:Nat→List Int→Int→List Int→Int→Int→Option (Int×Bool)
 | 0,_,_,_,_,_=>none
 | k + 1,x0,x6,x13,x14,x15=>if x15 < x14 then(if 0≤x15 then(if x15 < (x13.length:Int)then(if x15 < (x0.length:Int)then(fco.l0 k x0 (wrap64 ((wrap64 (x6 * (rd x0 x15))) + (rd x13 x15))) x13 x14 (wrap64 (x15 + 1)))else(none))else(none))else(none))else(some (x6,true))
def fco.f (k:Nat) (l0:List Int) (l1:List Int):Option (Int×Bool):=(fcp.f k l0 l1).bind fun za=>(if za=true then(fco.l0 k l0 0 l1 (l1.length:Int) 0)else(some (0,false)))
theorem fco.calls (k:Nat)(A0:Option Addr)(c0:Nat)(l0:List Int)(A1:Option Addr)(c1:Nat)(l1:List Int) (r1:Int)(r2:Bool)(w:World)(hr0:Kd.C (Kd.int .i64) w A0 l0.length l0)(hc0:l0.length≤c0)(hr1:Kd.C (Kd.int .i64) w A1 l1.length l1)(hc1:l1.length≤c1)(h:fco.f k l0 l1=some (r1,r2)) :
  Calls Try.prog 41 #[.slice A0 l0.length c0,.slice A1 l1.length c1] w fun e w'=>e=.returned (.tuple #[.int .i64 r1,.bool r2])∧Drawn0 w w':=by
 have HR0:=aM hr0
 have HC0:=aM hc0
 clear hr0 hc0
 have HR1:=aM hr1
 have HC1:=aM hc1
 clear hr1 hc1
 have H:((fcp.f k l0 l1).bind fun za=>(if za=true then(fco.l0 k l0 0 l1 (l1.length:Int) 0)else(some (0,false))))=some (r1,r2):=h
 clear h
 replace H:=oB H
 obtain⟨za,A30,H⟩:=H
 try dsimp only at H
 have A3:=aM A30
 clear A30
 by_cases c4:za=true
 rotate_left
 ·replace c4:=Bool.eq_false_iff.mpr c4
  subst c4
  rw [iN (show ¬ (false=true) by decide)] at H
  replace H:=oi2 H
  obtain⟨rfl,rfl⟩:=H
  go_enter Try.func41,Try.ntmps41
  go_wp2_with (first|((with_reducible refine gC 69 rfl ?_);refine gL 11 Try.func69 #[.slice A0 l0.length c0,.slice A1 l1.length c1] ?_;(with_reducible refine(fcp.calls k _ _ l0 _ _ l1 false _ ?s1 HC0.out ?s3 HC1.out A3.out).mono ?_);(case s1=>exact pC HR0.out);(case s3=>exact pC HR1.out);rintro e w' ⟨rfl,⟨nd,rfl⟩⟩;refine⟨_,rfl,?_⟩))
  go_ret2
  exact⟨pF,by repeat(first|exact Drawn0.refl _|apply Drawn0.step)⟩
 subst c4
 rw [ip rfl] at H
 have H':=aM H
 clear H
 go_enter Try.func41,Try.ntmps41
 go_wp2_with (first|((with_reducible refine gC 69 rfl ?_);refine gL 11 Try.func69 #[.slice A0 l0.length c0,.slice A1 l1.length c1] ?_;(with_reducible refine(fcp.calls k _ _ l0 _ _ l1 true _ ?s1 HC0.out ?s3 HC1.out A3.out).mono ?_);(case s1=>exact pC HR0.out);(case s3=>exact pC HR1.out);rintro e w' ⟨rfl,⟨nd,rfl⟩⟩;refine⟨_,rfl,?_⟩))
 go_loopg [6,15] k (fun kq v6 v15 w'=>∃ (yb:Int) (ya:Int),v6=.int .i64 yb∧v15=.int .i64 ya∧Aside0 (fco.l0 kq l0 yb l1 (l1.length:Int) ya=some (r1,r2))∧Aside0 (kq≤k)∧Drawn0 w w')
 case atStart=>exact⟨(0),(0),(pF),(pF),H',⟨Nat.le_refl _⟩,by repeat(first|exact Drawn0.refl _|apply Drawn0.step)⟩
 clear H'
 try clear c1
 try clear c4
 obtain⟨yb,ya,rfl,rfl,HA,HK1,⟨m1,rfl⟩⟩:=hrel
 cases gk with
 | zero=>exact absurd HA.out (by simp [fco.l0])
 | succ k1=>?_
 have H:=HA.out
 clear HA
 simp only [fco.l0] at H
 by_cases c5:ya < (l1.length:Int)
 rotate_left
 ·rw [iN c5] at H
  have yc:=dF c5
  clear c5
  replace H:=oi2 H
  obtain⟨rfl,rfl⟩:=H
  go_wp2
  go_ret2
  exact⟨pF,by repeat(first|exact Drawn0.refl _|apply Drawn0.step)⟩
 rw [ip c5] at H
 have yc:=dT c5
 clear c5
 by_cases c6:0≤ya
 rotate_left
 ·rw [iN c6] at H
  cases H
 rw [ip c6] at H
 have c6b0:=dT c6
 clear c6
 by_cases c7:ya < (l1.length:Int)
 rotate_left
 ·rw [iN c7] at H
  cases H
 rw [ip c7] at H
 have c7b0:=dT c7
 clear c7
 by_cases c8:ya < (l0.length:Int)
 rotate_left
 ·rw [iN c8] at H
  cases H
 rw [ip c8] at H
 have c8b0:=dT c8
 clear c8
 have H':=aM H
 clear H
 obtain⟨ad374,⟨⟩,hx374_0,p374,q374⟩:=zI HR1.out ya
 obtain⟨ad375,⟨⟩,hx375_0,p375,q375⟩:=zI HR0.out ya
 go_wp2
 go_roundg k1
 case measure=>have:=HK1.out;omega
 case rel=>exact⟨(wrap64 ((wrap64 (yb * (rd l0 ya))) + (rd l1 ya))),(wrap64 (ya + 1)),(pF),(pF),H',⟨pO1 HK1⟩,by repeat(first|exact Drawn0.refl _|apply Drawn0.step)⟩
mutual
def fbz.j0:Nat→List Int→List Int→List Int→Bool→Option (Int×Bool)
 | 0,_,_,_,_=>none
 | k + 1,x0,x1,x8,x25=>if x25=true then(some (0,false))else(if 0≤(wrap64 ((x1.length:Int) - (x0.length:Int)))then(if(wrap64 ((x1.length:Int) - (x0.length:Int)))≤(x8.length:Int)then(fbz.l0 k x0 (x8.drop ((wrap64 ((x1.length:Int) - (x0.length:Int))):Int).toNat) x0 (x0.length:Int) 0)else(none))else(none))
def fbz.l0:Nat→List Int→List Int→List Int→Int→Int→Option (Int×Bool)
 | 0,_,_,_,_,_=>none
 | k + 1,x0,x8,x33,x34,x35=>if x35 < x34 then(if 0≤x35 then(if x35 < (x33.length:Int)then(if(rd x33 x35)=1 then(if x35 < (x8.length:Int)then(fbz.l0 k x0 (x8.set (x35:Int).toNat 0) x33 x34 (wrap64 (x35 + 1)))else(none))else(fbz.l0 k x0 x8 x33 x34 (wrap64 (x35 + 1))))else(none))else(none))else((fco.f k x0 x8).bind fun bt386=>(some (bt386.1,bt386.2)))
end
def fbz.f (k:Nat) (l0:List Int) (l1:List Int) (a2:Int):Option (Int×Bool):=(fcn.f k l1 a2).bind fun bt376=>(if bt376.2=true then((fby.f k l0 l1).bind fun ze=>(fbz.j0 k l0 l1 bt376.1 (!ze)))else(fbz.j0 k l0 l1 bt376.1 true))
theorem fbz.calls (k:Nat)(A0:Option Addr)(c0:Nat)(l0:List Int)(A1:Option Addr)(c1:Nat)(l1:List Int) (a2:Int) (r1:Int)(r2:Bool)(w:World)(hr0:Kd.C (Kd.int .i64) w A0 l0.length l0)(hc0:l0.length≤c0)(hr1:Kd.C (Kd.int .i64) w A1 l1.length l1)(hc1:l1.length≤c1)(h:fbz.f k l0 l1 a2=some (r1,r2)) :
  Calls Try.prog 68 #[.slice A0 l0.length c0,.slice A1 l1.length c1,.int .i64 a2] w fun e w'=>e=.returned (.tuple #[.int .i64 r1,.bool r2])∧Below w.heap.size w w':=by
 have HR0:=aM hr0
 have HC0:=aM hc0
 clear hr0 hc0
 have HR1:=aM hr1
 have HC1:=aM hc1
 clear hr1 hc1
 have HB:=aM (Below.refl w.heap.size w)
 have H:((fcn.f k l1 a2).bind fun bt376=>(if bt376.2=true then((fby.f k l0 l1).bind fun ze=>(fbz.j0 k l0 l1 bt376.1 (!ze)))else(fbz.j0 k l0 l1 bt376.1 true)))=some (r1,r2):=h
 clear h
 replace H:=oB H
 obtain⟨⟨zb,zn⟩,A40,H⟩:=H
 try dsimp only at H
 have A4:=aM A40
 clear A40
 have HC5:=aM H
 clear H
 go_enter Try.func68,Try.ntmps68
 go_upto_region 2 with(first|((with_reducible refine gC 39 rfl ?_);refine gL 15 Try.func39 #[.slice A1 l1.length c1,.int .i64 a2] ?_;(with_reducible refine(fcn.calls k _ _ l1 a2 zb zn _ ?s1 HC1.out A4.out).mono ?_);(case s1=>exact pC HR1.out);rintro e w6 ⟨v378,rfl,ho0,hb⟩;refine⟨_,rfl,?_⟩;have zd:=aM (Kd.R_lower ho0 (below_size (qB HB)));replace HB:=bS (qB HB) hb;(try clear hb);(try clear hk);(try clear hi);(try clear ho0)))
 (try simp only [Act.put,sP])
 go_cut [25] (fun v25 wc=>∃ (kq:Nat) (ye:Bool),v25=.bool ye∧Aside0 (fbz.j0 kq l0 l1 zb ye=some (r1,r2))∧Aside0 (kq≤k)∧Aside0 (Kd.Q (Kd.int .i64) 3 wc w.heap.size (fun _=>True) v378 zb)∧Aside0 (Below w.heap.size w wc))
 case first =>
  have H:=HC5.out
  clear HC5
  by_cases c7:zn=true
  rotate_left
  ·replace c7:=Bool.eq_false_iff.mpr c7
   subst c7
   rw [iN (show ¬ (false=true) by decide)] at H
   have H':=aM H
   clear H
   go_wp2
   go_meet
   case rel=>exact⟨_,(true),(pF),H',⟨pO⟩,⟨Kd.Q_of_R (pR zd.out)⟩,⟨qB HB⟩⟩
  subst c7
  rw [ip rfl] at H
  replace H:=oB H
  obtain⟨ze,A80,H⟩:=H
  try dsimp only at H
  have A8:=aM A80
  clear A80
  have H':=aM H
  clear H
  go_wp2_with (first|(go_at_call 73;(with_reducible refine(fby.calls k _ _ l0 _ _ l1 ze _ ?s1 HC0.out ?s3 HC1.out A8.out).mono ?_);(case s1=>exact sC HR0 HB);(case s3=>exact sC HR1 HB);rintro e w9 ⟨rfl,hb⟩;replace zd:=bR zd hb;replace HB:=bS (qB HB) hb;(try clear hb);(try clear hk);(try clear hi)))
  go_meet
  case rel=>exact⟨_,(!ze),(pF),H',⟨pO⟩,⟨Kd.Q_of_R (pR zd.out)⟩,⟨qB HB⟩⟩
 clear HC5
 try clear c1
 obtain⟨kq,ye,rfl,HA,HJ4,za,HB⟩:=hcut
 cases kq with
 | zero=>exact absurd HA.out (by simp [fbz.j0])
 | succ kj4=>?_
 have H:=HA.out
 clear HA
 simp only [fbz.j0] at H
 by_cases c10:ye=true
 ·subst c10
  rw [ip rfl] at H
  replace H:=oi2 H
  obtain⟨rfl,rfl⟩:=H
  go_wp2
  go_ret2
  exact⟨pE,qB HB⟩
 replace c10:=Bool.eq_false_iff.mpr c10
 subst c10
 rw [iN (show ¬ (false=true) by decide)] at H
 obtain⟨ji11,hji11⟩:∃ j_:Int,(wrap64 ((l1.length:Int) - (l0.length:Int)))=j_:=⟨_,rfl⟩
 replace H:(if 0≤(ji11)then(if(ji11)≤(zb.length:Int)then(fbz.l0 kj4 l0 (zb.drop ((ji11):Int).toNat) l0 (l0.length:Int) 0)else(none))else(none))=some (r1,r2):=by first|(rw [hji11] at H;exact H)|(simp only [hji11] at H ⊢;exact H)
 have hji11w:(IntKind.i64.wrap ((l1.length:Int) - (l0.length:Int)))=ji11:=(i64_w _).trans hji11
 by_cases c12:0≤(ji11)
 rotate_left
 ·rw [iN c12] at H
  cases H
 rw [ip c12] at H
 have yh:=eq_true c12
 have yi:=dT c12
 clear c12
 by_cases c13:(ji11)≤(zb.length:Int)
 rotate_left
 ·rw [iN c13] at H
  cases H
 rw [ip c13] at H
 have yj:=eq_true c13
 have yk:=dT c13
 clear c13
 obtain⟨zc,zf⟩:∃ y_:List Int,y_=(zb.drop ((ji11):Int).toNat):=⟨_,rfl⟩
 replace H:(fbz.l0 kj4 l0 zc l0 (l0.length:Int) 0)=some (r1,r2):=pH zf H
 have zk:=aM zf
 clear zf
 have H':=aM H
 clear H
 obtain⟨zg,zj,yr,_⟩:=Kd.Q_slice za.out
 subst yr
 have yq:((ji11):Int)≤((zb.length:Int):Int):=oD
 obtain⟨i015,yf,_,hsz15,_⟩:=info_parts info3
 have hcut15:=cut_from (P:=Try.prog) 22 3 .i64 Try.underlying22 yf 1 hsz15 zg zb.length zj (ji11) (of_decide_eq_true pD) yq
 have hr15:=Kd.Q_drop (k:=((ji11):Int).toNat) za.out (by omega)
 obtain⟨A15,hA15⟩:∃ A1,A1=(if zj=((ji11):Int).toNat then zg else(zg:Option Addr).map (·.add (((ji11):Int).toNat * 1))):=⟨_,rfl⟩
 obtain⟨c15,hc15⟩:∃ c1,c1=zj - ((ji11):Int).toNat:=⟨_,rfl⟩
 have zl:zc.length=zb.length - ((ji11):Int).toNat:=(by rw [zk.out,List.length_drop])
 rw [← zk.out] at hr15
 rw [← zl,← hA15,← hc15] at hcut15
 replace hr15:Kd.Q (Kd.int .i64) 3 wc w.heap.size (fun _=>True) (.slice A15 zc.length c15) zc:=(by rw [hA15,hc15,zl];exact hr15)
 have HE15:Aside0 ((Value.slice A15 zc.length c15).ownBlock=(.slice zg zb.length zj:Value).ownBlock):=⟨by rw [hA15];split <;> (cases(zg:Option Addr) <;> first|rfl|(simp only [Value.ownBlock,Option.map];unfold Addr.add;split <;> rfl))⟩
 clear zl yf hsz15 za hA15 hc15
 have HO383:=aM hr15
 clear hr15
 replace yq:=eq_true yq
 go_wp2
 go_loopg [35] kj4 (fun kq v35 w'=>∃ (yd:List Int) (ya:Int),v35=.int .i64 ya∧Aside0 (fbz.l0 kq l0 yd l0 (l0.length:Int) ya=some (r1,r2))∧Aside0 (kq≤kj4)∧Aside0 (Kd.Q (Kd.int .i64) 3 w' w.heap.size (fun _=>True) (.slice A15 zc.length c15) yd)∧Aside0 (Below w.heap.size w w'))
 case atStart=>exact⟨(zc),(0),(pF),H',⟨Nat.le_refl _⟩,⟨by(with_reducible repeat(first|apply Kd.Q_alloc|apply Kd.Q_drewN|apply Kd.Q_drew));exact HO383.out⟩,⟨qB HB⟩⟩
 clear H'
 try clear c1
 try clear c10
 try clear yh
 try clear yi
 try clear yj
 try clear yk
 try clear c15
 try clear yq
 obtain⟨yd,ya,rfl,HA,HK2,za,HB⟩:=hrel
 have yb:=(Kd.Q_reads' za.out).1
 rw [yb] at za
 (try simp only [yb])
 cases gk with
 | zero=>exact absurd HA.out (by simp [fbz.l0])
 | succ k2=>?_
 have H:=HA.out
 clear HA
 simp only [fbz.l0] at H
 by_cases c16:ya < (l0.length:Int)
 rotate_left
 ·rw [iN c16] at H
  have zh:=dF c16
  (try simp only [yb] at zh)
  clear c16
  replace H:=oB H
  obtain⟨⟨t386,t387⟩,zo,H⟩:=H
  try dsimp only at H
  have A24:=aM zo
  clear zo
  replace H:=oi2 H
  obtain⟨rfl,rfl⟩:=H
  go_wp2_with (first|((with_reducible refine gC 41 rfl ?_);refine gL 48 Try.func41 #[.slice A0 l0.length c0,.slice A15 yd.length c15] ?_;(with_reducible refine(fco.calls k2 _ _ l0 _ _ yd t386 t387 _ ?s1 HC0.out ?s3 ?s4 A24.out).mono ?_);(case s1=>exact sC HR0 HB);(case s3=>exact pC (Kd.Q_reads' za.out).2.2);(case s4=>exact(Kd.Q_reads' za.out).2.1);rintro e w' ⟨rfl,⟨nd,rfl⟩⟩;refine⟨_,rfl,?_⟩))
  go_ret2
  exact⟨by first|rfl|(simp [errW_none,errW_some] <;> rfl)|(simp only [← hji11];first|rfl|(simp [errW_none,errW_some] <;> rfl))|(simp [*,errW_none,errW_some] <;> rfl),qB HB⟩
 rw [ip c16] at H
 have zh:=dT c16
 (try simp only [yb] at zh)
 clear c16
 by_cases c17:0≤ya
 rotate_left
 ·rw [iN c17] at H
  cases H
 rw [ip c17] at H
 have c17b0:=dT c17
 clear c17
 by_cases c18:ya < (l0.length:Int)
 rotate_left
 ·rw [iN c18] at H
  cases H
 rw [ip c18] at H
 have yl:=dT c18
 (try simp only [yb] at yl)
 clear c18
 by_cases c19:(rd l0 ya)=1
 rotate_left
 ·rw [iN c19] at H
  have ym:=bF c19
  have yn:=nT c19
  have H':=aM H
  clear H
  obtain⟨yo,⟨⟩,yc,ys,yt⟩:=zI HR0.out ya
  replace yc:=zW HB yc
  go_wp2
  (try simp only [← yb])
  go_roundg k2
  case measure=>have:=HJ4.out;have:=HK2.out;omega
  case rel=>exact⟨(yd),(wrap64 (ya + 1)),(pF),H',⟨pO2 HJ4 HK2⟩,⟨by(try simp only [yb]);(with_reducible repeat(first|apply Kd.Q_alloc|apply Kd.Q_drewN|apply Kd.Q_drew));exact za.out⟩,⟨qB HB⟩⟩
 rw [ip c19] at H
 have ym:=bT c19
 have yn:=nF c19
 clear c19
 by_cases c20:ya < (yd.length:Int)
 rotate_left
 ·rw [iN c20] at H
  cases H
 rw [ip c20] at H
 have yp:=dT c20
 (try simp only [yb] at yp)
 clear c20
 obtain⟨zm,zi⟩:∃ y_:List Int,y_=(yd.set (ya:Int).toNat 0):=⟨_,rfl⟩
 replace H:(fbz.l0 k2 l0 zm l0 (l0.length:Int) (wrap64 (ya + 1)))=some (r1,r2):=pH zi H
 have Ny385:=aM zi
 clear zi
 have H':=aM H
 clear H
 obtain⟨yo,⟨⟩,yc,ys,yt⟩:=zI HR0.out ya
 replace yc:=zW HB yc
 have yu:0≤(ya:Int):=oD
 have yv:(ya:Int) < ((yd.length:Int):Int):=oD
 obtain⟨yg,oo21,co21,zp,zq,gl21,cl21,HG21⟩:=Kd.Q_form za.out (by omega)
 (first|cases zp|(injection zp with ea_ en_ ec_;(first|subst ea_|(injection ea_ with ea_;subst ea_));subst ec_;clear en_))
 have GB21:=aM zq
 have GG21:=aM HG21
 clear zq gl21 HG21
 obtain⟨hx21_0,hf21_0⟩:=Kd.Q_cell 0 za.out (ya:Int) yu yv
 have HP22:=Kd.Q_putg za.out (ya:Int) (of_decide_eq_true pD) (by have h_:(ya:Int) < ((yd.length:Int):Int):=oD;first|exact h_|(have e_:=(Kd.Q_reads' za.out).1;omega)|simpa using h_) 0
 go_wp2_with (first|((with_reducible refine gate_store (t:=3) (p:=44) rfl ?_);refine store_event (t:=3) (p:=44) (v:=?vo_w23) (w1:=(wr.setCell ⟨yg,oo21 + (ya:Int).toNat,none⟩ (.int .i64 0))) ?hg ?ho ?hn ?hr ?_;(case ho=>rfl);(case hg=>rfl);(case hn=>rfl);(case hr=>first|(go_simp;done)|(go_simp;rfl));intro w23 hw;have hg:wr.grownBy w23 (some yg):=(by rw [hw];exact HP22.2);have hp_:Kd.Q (Kd.int .i64) 3 w23 w.heap.size (fun _=>True) (.slice (some ⟨yg,oo21,none⟩) yd.length c15) zm:=(by rw [hw,Ny385.out];exact HP22.1);clear HP22;replace za:=aM (hp_);replace HB:=aM ((by rw [hw];exact below_set (HB.out) GB21.out:Below w.heap.size w w23));clear hg hw hp_))
 (try simp only [← yb])
 go_roundg k2
 case measure=>have:=HJ4.out;have:=HK2.out;omega
 case rel=>exact⟨(zm),(wrap64 (ya + 1)),(pF),H',⟨pO2 HJ4 HK2⟩,⟨by(try simp only [yb]);(with_reducible repeat(first|apply Kd.Q_alloc|apply Kd.Q_drewN|apply Kd.Q_drew));exact za.out⟩,⟨qB HB⟩⟩
def fbn.l0:Nat→List Int→List Int→List Int→List Int→Int→Int→Option (Int×List Int)
 | 0,_,_,_,_,_,_=>none
 | k + 1,x2,x4,x14,x25,x26,x27=>if x27 < x26 then(if 0≤x27 then(if x27 < (x25.length:Int)then(if x27 < (x4.length:Int)then(if 0≤(rd x25 x27)then(if(rd x25 x27) < (x14.length:Int)then(fbn.l0 k x2 x4 (x14.set ((rd x25 x27):Int).toNat (rd x4 x27)) x25 x26 (wrap64 (x27 + 1)))else(none))else(none))else(none))else(none))else(none))else((fco.f k x2 x14).bind fun bt395=>(some (bt395.1,x4)))
def fbn.f (k:Nat) (a0:Int) (ya:Int) (yd:Int) (yh:Int) (ye:Int) (yj:Int) (yk:Int) (yl:Int) (ym:Int) (yn:Bool) (yb:List Int) (l2:List Int) (l3:List Int) (l4:List Int) (a5:Int):Option (Int×List Int):=if a0=34 then(if 0≤(l2.length:Int)then(if((l2.length:Int):Int).toNat≤35184372088832 then(fbn.l0 k l2 l4 (List.replicate ((l2.length:Int):Int).toNat 0) yb (yb.length:Int) 0)else(none))else(none))else(if a0=35 then(if 0≤ya then(if ya < (l4.length:Int)then((some (l4.set (ya:Int).toNat (wrap64 (yd + (wrap64 ((rd l4 ya) * ye)))):List Int)).bind fun ze=>(if yh=1 then((some (ze.set (ya:Int).toNat yd:List Int)).bind fun zg=>((fco.f k l2 zg).bind fun bt400=>(some (bt400.1,zg))))else((fco.f k l2 ze).bind fun bt402=>(some (bt402.1,ze)))))else(none))else(none))else(if a0=36 then((fbz.f k l2 l3 a5).bind fun bt404=>(some (bt404.1,l4)))else(if a0=37 then(if 0≤ya then(if ya < (l2.length:Int)then(if ya < (l4.length:Int)then((some (l4.set (ya:Int).toNat (wrap64 ((wrap64 ((rd l2 ya) - 1)) - (rd l4 ya))):List Int)).bind fun zh=>((fco.f k l2 zh).bind fun bt409=>(some (bt409.1,zh))))else(none))else(none))else(none))else(some (a5,l4)))))
def fbn.T12:TT:=(true,[([],[]),([],[]),([1],[1]),([],[]),([3],[3]),([],[]),([],[]),([6],[6]),([5,7],[5,7]),([8],[8]),([],[]),([10],[10]),([9,11],[9,11]),([4,12],[4,12]),([0,2,0,1,2,3,4,5,6,7,8,9,10,11,12,13],[0,2]),([14,13,0,1,2,3,4,5,6,7,8,9,10,11,12,13],[13,14])])
def fbn.B12:List Nat:=[0,0,2,0,8,0,0,64,224,480,0,1024,4064,8184,16383,32767]
theorem fbn.tab12:rtab .any (opsOf Try.f40 12)=fbn.T12:=by kernel_rfl
theorem fbn.bits12:waitsOk fbn.T12.2 fbn.B12=true:=by kernel_rfl
def fbn.T19:TT:=(true,[([],[]),([],[]),([1],[1]),([],[]),([],[]),([4],[4]),([3,5],[3,5]),([6],[6]),([7],[7]),([],[]),([],[]),([10],[10]),([9,11],[9,11]),([12],[12]),([8,13],[8,13]),([0,2,0,1,2,3,4,5,6,7,8,9,10,11,12,13,14],[0,2]),([15,14,0,1,2,3,4,5,6,7,8,9,10,11,12,13,14],[14,15])])
def fbn.B19:List Nat:=[0,0,2,0,0,16,56,120,248,0,0,1024,3584,7680,16376,32767,65535]
theorem fbn.tab19:rtab .any (opsOf Try.f40 19)=fbn.T19:=by kernel_rfl
theorem fbn.bits19:waitsOk fbn.T19.2 fbn.B19=true:=by kernel_rfl
theorem fbn.calls (k:Nat) (a0:Int) (ya:Int) (yd:Int) (yh:Int) (ye:Int) (yj:Int) (yk:Int) (yl:Int) (ym:Int)(yn:Bool)(yo:Option Addr)(yp:Nat)(yb:List Int)(A2:Option Addr)(c2:Nat)(l2:List Int)(A3:Option Addr)(c3:Nat)(l3:List Int)(P4_:Nat→Prop)(u9000_:Value)(l4:List Int) (a5:Int) (r1:Int)(r2:List Int)(w0 w:World)(hB:Below w0.heap.size w0 w)(yv:∀ W_,Kept w W_ (fun k_=>P4_ k_)→Kd.C (Kd.int .i64) W_ yo yb.length yb)(yw:yb.length≤yp)(hr2:∀ W_,Kept w W_ (fun k_=>P4_ k_)→Kd.C (Kd.int .i64) W_ A2 l2.length l2)(hc2:l2.length≤c2)(hr3:∀ W_,Kept w W_ (fun k_=>P4_ k_)→Kd.C (Kd.int .i64) W_ A3 l3.length l3)(hc3:l3.length≤c3)(ho4:Kd.R (Kd.int .i64) 3 w w0.heap.size P4_ u9000_ l4)(h:fbn.f k a0 ya yd yh ye yj yk yl ym yn yb l2 l3 l4 a5=some (r1,r2)) :
  Calls Try.prog 40 #[.int .i64 a0,.agg #[.int .i64 ya,.int .i64 yd,.int .i64 yh,.int .i64 ye,.int .i64 yj,.int .i64 yk,.int .i64 yl,.int .i64 ym,.bool yn,.slice yo yb.length yp],.slice A2 l2.length c2,.slice A3 l3.length c3,u9000_,.int .i64 a5] w fun e w'=>e=.returned (.int .i64 r1)∧Kd.R (Kd.int .i64) 3 w' w0.heap.size (fun k_=>(P4_ k_∨w.heap.size≤k_)) u9000_ r2∧Below w0.heap.size w0 w'∧Kept w w' (fun k_=>P4_ k_):=by
 have hu24:=Try.underlying24
 have yz:=aM yv
 have HC1_9:=aM yw
 clear yv yw
 have HR2:=aM hr2
 have HC2:=aM hc2
 clear hr2 hc2
 have HR3:=aM hr3
 have HC3:=aM hc3
 clear hr3 hc3
 have HO4:=aM (show Kd.R (Kd.int .i64) 3 w w0.heap.size (fun k_=>(P4_ k_∨w.heap.size≤k_)) u9000_ l4 from Kd.R_mono ho4 (fun k_ hk=>(.inl hk)))
 have HK:=aM (Kept.refl w (fun k_=>P4_ k_))
 have HW0:=aM hB.size
 have HB:=aM hB
 clear hB
 have H:(if a0=34 then(if 0≤(l2.length:Int)then(if((l2.length:Int):Int).toNat≤35184372088832 then(fbn.l0 k l2 l4 (List.replicate ((l2.length:Int):Int).toNat 0) yb (yb.length:Int) 0)else(none))else(none))else(if a0=35 then(if 0≤ya then(if ya < (l4.length:Int)then((some (l4.set (ya:Int).toNat (wrap64 (yd + (wrap64 ((rd l4 ya) * ye)))):List Int)).bind fun ze=>(if yh=1 then((some (ze.set (ya:Int).toNat yd:List Int)).bind fun zg=>((fco.f k l2 zg).bind fun bt400=>(some (bt400.1,zg))))else((fco.f k l2 ze).bind fun bt402=>(some (bt402.1,ze)))))else(none))else(none))else(if a0=36 then((fbz.f k l2 l3 a5).bind fun bt404=>(some (bt404.1,l4)))else(if a0=37 then(if 0≤ya then(if ya < (l2.length:Int)then(if ya < (l4.length:Int)then((some (l4.set (ya:Int).toNat (wrap64 ((wrap64 ((rd l2 ya) - 1)) - (rd l4 ya))):List Int)).bind fun zh=>((fco.f k l2 zh).bind fun bt409=>(some (bt409.1,zh))))else(none))else(none))else(none))else(some (a5,l4))))))=some (r1,r2):=h
 clear h
 by_cases c7:a0=34
 ·rw [ip c7] at H
  have zv:=bT c7
  have zw:=nF c7
  clear c7
  by_cases c8:0≤(l2.length:Int)
  rotate_left
  ·rw [iN c8] at H
   cases H
  rw [ip c8] at H
  have yac:=eq_true c8
  have yad:=dT c8
  clear c8
  by_cases c9:((l2.length:Int):Int).toNat≤35184372088832
  rotate_left
  ·rw [iN c9] at H
   cases H
  rw [ip c9] at H
  have yae:=eq_true c9
  have yaf:=dT c9
  clear c9
  obtain⟨zx,zj⟩:∃ y_:List Int,y_=(List.replicate ((l2.length:Int):Int).toNat 0):=⟨_,rfl⟩
  replace H:(fbn.l0 k l2 l4 zx yb (yb.length:Int) 0)=some (r1,r2):=pH zj H
  have zq:=aM zj
  clear zj
  have H':=aM H
  clear H
  go_enter Try.func40,Try.ntmps40
  go_wp2_with (first|((with_reducible refine gD 7 rfl ?_);refine bX 7 24 (aT ya yd yh ye yj yk yl ym yn yo yb.length yp) ?_;intro zb hg w10 hbox hb;replace HO4:=bR HO4 hb;have za:=aM (hbox);have zc:=aM ((by rw [hg];exact(by first|exact HK.out.1|exact(show Kept w _ (fun k_=>P4_ k_) from by repeat(first|(with_reducible first|exact HK.out|apply Kept.alloc|apply Kept.drewN|apply Kept.drew)|exact HK.out)).1):w.heap.size≤zb));replace HK:=aM (Kept.below (S:=(fun k_=>P4_ k_)) (by repeat(first|(with_reducible first|exact HK.out|apply Kept.alloc|apply Kept.drewN|apply Kept.drew)|exact HK.out)) hb);have zd:=gE (w:=w0) hg (qB HB);replace HB:=bS (qB HB) hb;clear hb hbox hg)|((with_reducible refine gD 23 rfl ?_);refine Kd.R_make (Kd.int .i64) _ 3 rfl (N:=23) rfl 22 _ _ rfl (l2.length:Int) rfl rfl Try.underlying22 (.int .i64 0) 8 info3 rfl (by decide) (by omega) 0 (ok:=fun _=>True) (okp:=fun _=>True) rfl (fun _ hk=>hk) trivial (of_decide_eq_true pD) (Nat.le_trans (Nat.mul_le_mul_right _ (of_decide_eq_true pD:(l2.length:Int).toNat≤35184372088832)) (by omega)) (Below.refl _ _) (Nat.le_refl _) ?_;intro zy w11 ho12 hb hg_ hnew_;clear hg_ hnew_;(first|rw [← zq.out] at ho12|(simp only [Int.reduceToNat] at ho12;rw [← zq.out] at ho12));have HO391:=aM (Kd.R_lower (Kd.R_new' (Kd.R_newM (M:=fun k_=>(P4_ k_∨w.heap.size≤k_)) ho12 (by first|exact HK.out.1|exact(show Kept w _ (fun k_=>P4_ k_) from by repeat(first|(with_reducible first|exact HK.out|apply Kept.alloc|apply Kept.drewN|apply Kept.drew|refine Kept.setCell ?_ (.inr zc.out) _)|exact HK.out)).1) (fun k_ h_=>.inr h_)) (Kd.R_lt (pR HO4.out))) (below_size (qB1 HB zd)));replace HO4:=eR HO4 ho12 hb;replace za:=bK za hb;replace HK:=aM (Kept.below (S:=(fun k_=>P4_ k_)) (by repeat(first|(with_reducible first|exact HK.out|apply Kept.alloc|apply Kept.drewN|apply Kept.drew|refine Kept.setCell ?_ (.inr zc.out) _)|exact HK.out)) hb);replace HB:=bS (qB1 HB zd) hb;clear hb ho12;have y0:=blk10 za.out))
  go_loopg [27] k (fun kq v27 w'=>∃ (yi:List Int) (yc:Int),v27=.int .i64 yc∧Aside0 (fbn.l0 kq l2 l4 yi yb (yb.length:Int) yc=some (r1,r2))∧Aside0 (kq≤k)∧Aside0 (Kd.R (Kd.int .i64) 3 w' w0.heap.size (fun k_=>(P4_ k_∨w.heap.size≤k_)∧some k_≠(zy:Value).ownBlock) u9000_ l4)∧Aside0 (Kd.R (Kd.int .i64) 3 w' w0.heap.size (fun k_=>(P4_ k_∨w.heap.size≤k_)∧some k_≠(u9000_:Value).ownBlock) zy yi)∧Aside0 (w'.heap[zb]?=some (.cells (aT ya yd yh ye yj yk yl ym yn yo yb.length yp) 24 (0,0)))∧Aside0 (Kept w w' (fun k_=>P4_ k_))∧Aside0 (Below w0.heap.size w0 w'))
  case atStart=>exact⟨(zx),(0),(pF),H',⟨Nat.le_refl _⟩,⟨pR HO4.out⟩,⟨by(with_reducible repeat(first|apply rA|apply rN|apply rD));exact Kd.R_mono HO391.out (fun _ hk=>⟨hk.1.1,hk.2⟩)⟩,⟨pK za.out⟩,⟨by repeat(first|(with_reducible first|exact HK.out|apply Kept.alloc|apply Kept.drewN|apply Kept.drew|refine Kept.setCell ?_ (.inr zc.out) _)|exact HK.out)⟩,⟨qB1 HB zd⟩⟩
  clear H'
  try clear c2
  try clear c3
  try clear zv
  try clear zw
  try clear yac
  try clear yad
  try clear yae
  try clear yaf
  try clear y0
  obtain⟨yi,yc,rfl,HA,HK1,zi,zf,za,HK,HB⟩:=hrel
  cases gk with
  | zero=>exact absurd HA.out (by simp [fbn.l0])
  | succ k1=>?_
  have H:=HA.out
  clear HA
  simp only [fbn.l0] at H
  by_cases c14:yc < (yb.length:Int)
  rotate_left
  ·rw [iN c14] at H
   have y1:=dF c14
   clear c14
   replace H:=oB H
   obtain⟨⟨t395,t396⟩,zz,H⟩:=H
   try dsimp only at H
   have A24:=aM zz
   clear zz
   replace H:=oi2 H
   obtain⟨rfl,rfl⟩:=H
   obtain⟨yag,yah,yai⟩:=Kd.R_slice zf.out
   subst yai
   go_wp2_with (first|((with_reducible refine gC 41 rfl ?_);refine gL 43 Try.func41 #[.slice A2 l2.length c2,.slice yag yi.length yah] ?_;(with_reducible refine(fco.calls k1 _ _ l2 _ _ yi t395 t396 _ ?s1 HC2.out ?s3 ?s4 A24.out).mono ?_);(case s1=>exact Kd.C_kept_now HR2.out (by repeat(first|(with_reducible first|exact HK.out|apply Kept.alloc|apply Kept.drewN|apply Kept.drew|refine Kept.setCell ?_ (.inr zc.out) _)|exact HK.out)));(case s3=>exact sR zf);(case s4=>exact sL zf);rintro e w' ⟨rfl,⟨nd,rfl⟩⟩;refine⟨_,rfl,?_⟩))
   go_ret
   exact⟨pE,by(with_reducible repeat(first|apply rA|apply rN|apply rD));exact Kd.R_mono zi.out (fun _ hk=>hk.1),qB1 HB zd,by repeat(first|(with_reducible first|exact HK.out|apply Kept.alloc|apply Kept.drewN|apply Kept.drew|refine Kept.setCell ?_ (.inr zc.out) _)|exact HK.out)⟩
  rw [ip c14] at H
  have y1:=dT c14
  clear c14
  by_cases c15:0≤yc
  rotate_left
  ·rw [iN c15] at H
   cases H
  rw [ip c15] at H
  have c15b0:=dT c15
  clear c15
  by_cases c16:yc < (yb.length:Int)
  rotate_left
  ·rw [iN c16] at H
   cases H
  rw [ip c16] at H
  have c16b0:=dT c16
  clear c16
  by_cases c17:yc < (l4.length:Int)
  rotate_left
  ·rw [iN c17] at H
   cases H
  rw [ip c17] at H
  have c17b0:=dT c17
  clear c17
  by_cases c18:0≤(rd yb yc)
  rotate_left
  ·rw [iN c18] at H
   cases H
  rw [ip c18] at H
  have c18b0:=dT c18
  clear c18
  by_cases c19:(rd yb yc) < (yi.length:Int)
  rotate_left
  ·rw [iN c19] at H
   cases H
  rw [ip c19] at H
  have c19b0:=dT c19
  clear c19
  obtain⟨zs,zk⟩:∃ y_:List Int,y_=(yi.set ((rd yb yc):Int).toNat (rd l4 yc)):=⟨_,rfl⟩
  replace H:(fbn.l0 k1 l2 l4 zs yb (yb.length:Int) (wrap64 (yc + 1)))=some (r1,r2):=pH zk H
  have Ny394:=aM zk
  clear zk
  have H':=aM H
  clear H
  obtain⟨ad392,⟨⟩,hx392_0,p392,q392⟩:=zI (Kd.C_kept_now yz.out HK.out) yc
  obtain⟨Ao21,yaj,yak⟩:=Kd.R_slice zi.out
  subst yak
  obtain⟨y2,⟨⟩,hx393_0,p393,q393⟩:=zI (Kd.R_reads' zi.out).2.2 yc
  have p20:0≤((rd yb yc):Int):=oD
  have q20:((rd yb yc):Int) < ((yi.length:Int):Int):=oD
  obtain⟨yr,zt,z0,z1,gl20,cl20,HG20⟩:=Kd.R_form zf.out (by omega)
  (first|cases z0|(injection z0 with ea_ en_ ec_;(first|subst ea_|(injection ea_ with ea_;subst ea_));subst ec_;clear en_))
  have GB20:=aM z1
  have GG20:=aM HG20
  clear z1 gl20 HG20
  have HMgo20:=aM (show (P4_ yr∨w.heap.size≤yr) from (zf.out.1 _ rfl).1)
  obtain⟨hx20_0,hf20_0⟩:=Kd.R_celln 0 zf.out ((rd yb yc):Int) p20 q20
  have HP22:=Kd.R_putg zf.out ((rd yb yc):Int) (rd l4 yc)
  go_wp2_with (first|((with_reducible refine gate_store (t:=3) (p:=38) rfl ?_);refine store_event (t:=3) (p:=38) (v:=?vo_w23) (w1:=(wr.setCell ⟨yr,((rd yb yc):Int).toNat,none⟩ (.int .i64 (rd l4 yc)))) ?hg ?ho ?hn ?hr ?_;(case ho=>rfl);(case hg=>rfl);(case hn=>rfl);(case hr=>first|(go_simp;done)|(go_simp;rfl));intro w23 hw;have hg:wr.grownBy w23 (some yr):=(by rw [hw];exact HP22.2);have hp_:Kd.R (Kd.int .i64) 3 w23 w0.heap.size (fun k_=>(P4_ k_∨w.heap.size≤k_)∧some k_≠(.slice (some y2) l4.length yaj:Value).ownBlock) (.slice (some ⟨yr,0,none⟩) yi.length zt) zs:=(by rw [hw,Ny394.out];exact HP22.1);clear HP22;replace zi:=aM (Kd.R_after (v:=(.slice (some ⟨yr,0,none⟩) yi.length zt)) (v1:=(.slice (some ⟨yr,0,none⟩) yi.length zt)) (ok:=(fun k_=>(P4_ k_∨w.heap.size≤k_))) (pR zi.out) hg (.inl rfl));replace za:=aM (blk_grown (g:=zb) (pK za.out) hg (Kd.R_ne zf.out za.out (by decide)));replace HB:=aM ((by rw [hw];exact below_set (HB.out) GB20.out:Below w0.heap.size w0 w23));replace HK:=aM (Kept.of_grown (S:=(fun k_=>P4_ k_)) hg (by repeat(first|(with_reducible first|exact HK.out|apply Kept.alloc|apply Kept.drewN|apply Kept.drew|refine Kept.setCell ?_ (.inr zc.out) _)|exact HK.out)) (fun k_ e_=>(zf.out.1 k_ e_).1));replace zf:=aM (hp_);clear hg hw hp_))
  go_roundg k1
  case measure=>have:=HK1.out;omega
  case rel=>exact⟨(zs),(wrap64 (yc + 1)),(pF),H',⟨pO1 HK1⟩,⟨pR zi.out⟩,⟨pR zf.out⟩,⟨pK za.out⟩,⟨by repeat(first|(with_reducible first|exact HK.out|apply Kept.alloc|apply Kept.drewN|apply Kept.drew|refine Kept.setCell ?_ (.inr zc.out) _)|exact HK.out)⟩,⟨qB1 HB zd⟩⟩
 rw [iN c7] at H
 have zv:=bF c7
 have zw:=nT c7
 by_cases c26:a0=35
 rotate_left
 ·rw [iN c26] at H
  have y3:=bF c26
  have y4:=nT c26
  by_cases c47:a0=36
  ·rw [ip c47] at H
   have y5:=bT c47
   have y6:=nF c47
   clear c47
   replace H:=oB H
   obtain⟨⟨t404,t405⟩,z2,H⟩:=H
   try dsimp only at H
   have A48:=aM z2
   clear z2
   replace H:=oi2 H
   obtain⟨rfl,rfl⟩:=H
   go_enter Try.func40,Try.ntmps40
   go_wp2_with (first|((with_reducible refine gD 7 rfl ?_);refine bX 7 24 (aT ya yd yh ye yj yk yl ym yn yo yb.length yp) ?_;intro zb hg w49 hbox hb;replace HO4:=bR HO4 hb;have za:=aM (hbox);have zc:=aM ((by rw [hg];exact(by first|exact HK.out.1|exact(show Kept w _ (fun k_=>P4_ k_) from by repeat(first|(with_reducible first|exact HK.out|apply Kept.alloc|apply Kept.drewN|apply Kept.drew)|exact HK.out)).1):w.heap.size≤zb));replace HK:=aM (Kept.below (S:=(fun k_=>P4_ k_)) (by repeat(first|(with_reducible first|exact HK.out|apply Kept.alloc|apply Kept.drewN|apply Kept.drew)|exact HK.out)) hb);have zd:=gE (w:=w0) hg (qB HB);replace HB:=bS (qB HB) hb;clear hb hbox hg)|((with_reducible refine gC 68 rfl ?_);refine gL 84 Try.func68 #[.slice A2 l2.length c2,.slice A3 l3.length c3,.int .i64 a5] ?_;(with_reducible refine(fbz.calls k _ _ l2 _ _ l3 a5 t404 t405 _ ?s1 HC2.out ?s3 HC3.out A48.out).mono ?_);(case s1=>exact Kd.C_kept_now HR2.out (by repeat(first|(with_reducible first|exact HK.out|apply Kept.alloc|apply Kept.drewN|apply Kept.drew|refine Kept.setCell ?_ (.inr zc.out) _)|exact HK.out)));(case s3=>exact Kd.C_kept_now HR3.out (by repeat(first|(with_reducible first|exact HK.out|apply Kept.alloc|apply Kept.drewN|apply Kept.drew|refine Kept.setCell ?_ (.inr zc.out) _)|exact HK.out)));rintro e w50 ⟨rfl,hb⟩;refine⟨_,rfl,?_⟩;replace HO4:=bR HO4 hb;replace za:=bK za hb;replace HK:=aM (Kept.below (S:=(fun k_=>P4_ k_)) (by repeat(first|(with_reducible first|exact HK.out|apply Kept.alloc|apply Kept.drewN|apply Kept.drew|refine Kept.setCell ?_ (.inr zc.out) _)|exact HK.out)) hb);replace HB:=bS (qB1 HB zd) hb;(try clear hb);(try clear hk);(try clear hi)))
   go_ret
   exact⟨pE,pR HO4.out,qB1 HB zd,by repeat(first|(with_reducible first|exact HK.out|apply Kept.alloc|apply Kept.drewN|apply Kept.drew|refine Kept.setCell ?_ (.inr zc.out) _)|exact HK.out)⟩
  rw [iN c47] at H
  have y5:=bF c47
  have y6:=nT c47
  by_cases c51:a0=37
  rotate_left
  ·rw [iN c51] at H
   have y7:=bF c51
   have y8:=nT c51
   replace H:=oi2 H
   obtain⟨rfl,rfl⟩:=H
   go_enter Try.func40,Try.ntmps40
   go_wp2_with (first|((with_reducible refine gD 7 rfl ?_);refine bX 7 24 (aT ya yd yh ye yj yk yl ym yn yo yb.length yp) ?_;intro zb hg w61 hbox hb;replace HO4:=bR HO4 hb;have za:=aM (hbox);have zc:=aM ((by rw [hg];exact(by first|exact HK.out.1|exact(show Kept w _ (fun k_=>P4_ k_) from by repeat(first|(with_reducible first|exact HK.out|apply Kept.alloc|apply Kept.drewN|apply Kept.drew)|exact HK.out)).1):w.heap.size≤zb));replace HK:=aM (Kept.below (S:=(fun k_=>P4_ k_)) (by repeat(first|(with_reducible first|exact HK.out|apply Kept.alloc|apply Kept.drewN|apply Kept.drew)|exact HK.out)) hb);have zd:=gE (w:=w0) hg (qB HB);replace HB:=bS (qB HB) hb;clear hb hbox hg))
   go_ret
   exact⟨pE,pR HO4.out,qB1 HB zd,by repeat(first|(with_reducible first|exact HK.out|apply Kept.alloc|apply Kept.drewN|apply Kept.drew|refine Kept.setCell ?_ (.inr zc.out) _)|exact HK.out)⟩
  rw [ip c51] at H
  have y7:=bT c51
  have y8:=nF c51
  clear c51
  by_cases c52:0≤ya
  rotate_left
  ·rw [iN c52] at H
   cases H
  rw [ip c52] at H
  have c52b0:=dT c52
  clear c52
  by_cases c53:ya < (l2.length:Int)
  rotate_left
  ·rw [iN c53] at H
   cases H
  rw [ip c53] at H
  have c53b0:=dT c53
  clear c53
  by_cases c54:ya < (l4.length:Int)
  rotate_left
  ·rw [iN c54] at H
   cases H
  rw [ip c54] at H
  have c54b0:=dT c54
  clear c54
  obtain⟨zh,zl⟩:∃ y_:List Int,y_=(l4.set (ya:Int).toNat (wrap64 ((wrap64 ((rd l2 ya) - 1)) - (rd l4 ya)))):=⟨_,rfl⟩
  replace H:((fco.f k l2 zh).bind fun bt409=>(some (bt409.1,zh)))=some (r1,r2):=pH zl H
  have Ny408:=aM zl
  clear zl
  replace H:=oB H
  obtain⟨⟨t409,t410⟩,z3,H⟩:=H
  try dsimp only at H
  have A56:=aM z3
  clear z3
  replace H:=oi2 H
  obtain⟨rfl,rfl⟩:=H
  go_enter Try.func40,Try.ntmps40
  try go_wp2_with (first|((with_reducible refine gD 7 rfl ?_);refine bX 7 24 (aT ya yd yh ye yj yk yl ym yn yo yb.length yp) ?_;intro zb hg w57 hbox hb;replace HO4:=bR HO4 hb;have za:=aM (hbox);have zc:=aM ((by rw [hg];exact(by first|exact HK.out.1|exact(show Kept w _ (fun k_=>P4_ k_) from by repeat(first|(with_reducible first|exact HK.out|apply Kept.alloc|apply Kept.drewN|apply Kept.drew)|exact HK.out)).1):w.heap.size≤zb));replace HK:=aM (Kept.below (S:=(fun k_=>P4_ k_)) (by repeat(first|(with_reducible first|exact HK.out|apply Kept.alloc|apply Kept.drewN|apply Kept.drew)|exact HK.out)) hb);have zd:=gE (w:=w0) hg (qB HB);replace HB:=bS (qB HB) hb;clear hb hbox hg))
  replace HO4:=aM (Kd.R_drew HO4.out)
  replace za:=aM (blk_drew za.out)
  replace HK:=aM (Kept.drew HK.out)
  replace HB:=aM (below_drew1 HB.out)
  obtain⟨yx,yal,yt,yam,yan⟩:=zI (Kd.C_kept_now HR2.out HK.out) ya
  have hw406_0:=yt
  cases yal
  obtain⟨Ao59,z4,z5⟩:=Kd.R_slice HO4.out
  (first|subst z5|(injection z5 with f1_ f2_ f3_;have f4_:=f1_.symm;have f5_:=f3_.symm;clear f1_ f2_ f3_;subst f4_;subst f5_))
  obtain⟨ad407,⟨⟩,yq,p407,q407⟩:=zI (Kd.R_reads' HO4.out).2.2 ya
  have p55:0≤(ya:Int):=oD
  have q55:(ya:Int) < ((l4.length:Int):Int):=oD
  obtain⟨yu,co55,z6,z7,gl55,cl55,HG55⟩:=Kd.R_form HO4.out (by omega)
  (first|cases z6|(injection z6 with ea_ en_ ec_;(first|subst ea_|(injection ea_ with ea_;subst ea_));subst ec_;clear en_))
  have GB55:=aM z7
  have GG55:=aM HG55
  clear z7 gl55 HG55
  have HMgo55:=aM (show (P4_ yu∨w.heap.size≤yu) from (HO4.out.1 _ rfl))
  (first|simp only [add_plain] at yq|skip)
  obtain⟨yy,hf55_0⟩:=Kd.R_celln 0 HO4.out (ya:Int) p55 q55
  have HP60:=Kd.R_putn HO4.out (ya:Int) (wrap64 ((wrap64 ((rd l2 ya) - 1)) - (rd l4 ya)))
  rw [← Ny408.out] at HP60
  have HQ60:=aM HP60
  clear HP60
  refine sT 17 [16] (fun w'=>w'.cell? ⟨zb,0,none⟩=some (.int .i64 ya)∧w'.cell? ⟨zb,1,none⟩=some (.int .i64 yd)∧w'.cell? ⟨zb,2,none⟩=some (.int .i64 yh)∧w'.cell? ⟨zb,3,none⟩=some (.int .i64 ye)∧w'.cell? ⟨zb,4,none⟩=some (.int .i64 yj)∧w'.cell? ⟨zb,5,none⟩=some (.int .i64 yk)∧w'.cell? ⟨zb,6,none⟩=some (.int .i64 yl)∧w'.cell? ⟨zb,7,none⟩=some (.int .i64 ym)∧w'.cell? ⟨zb,8,none⟩=some (.bool yn)∧w'.cell? ⟨zb,9,none⟩=some (.slice yo yb.length yp)∧w'.cell? (yx.add (ya).toNat)=some (.int .i64 (rd l2 ya))∧w'.cell? ⟨yu,(ya).toNat,none⟩=some (.int .i64 (rd l4 ya))) fbn.tab19 fbn.bits19 ⟨(blk_cell za.out 0).trans rfl,(blk_cell za.out 1).trans rfl,(blk_cell za.out 2).trans rfl,(blk_cell za.out 3).trans rfl,(blk_cell za.out 4).trans rfl,(blk_cell za.out 5).trans rfl,(blk_cell za.out 6).trans rfl,(blk_cell za.out 7).trans rfl,(blk_cell za.out 8).trans rfl,(blk_cell za.out 9).trans rfl,(Kd.foot_int (HR2.out _ (by repeat(first|exact HK.out|apply Kept.alloc|apply Kept.drewN|apply Kept.drew|refine Kept.setCell ?_ HMgo55.out _))) ya (yam) (yan)),yq⟩ (fun hHeld HT_ HW_=>?_)
  generalize w57.drew=w58 at HO4 za HK HB GG55 HQ60 hf55_0 yt yq yy hHeld ⊢
  refine pQ 0 89 17 1 HT_ ?_
  refine pQ 1 90 17 3 HT_ ?_
  refine pQ 3 92 17 11 HT_ ?_
  refine pQ 4 93 17 27 HT_ ?_
  refine pQ 9 98 17 539 HT_ ?_
  refine pQ 10 99 17 1563 HT_ ?_
  refine pU12 2 91 17 1567 HT_ HW_ hHeld ?_
  refine pU12 5 94 17 1599 HT_ HW_ hHeld ?_
  refine pQ 6 95 17 1663 HT_ ?_
  refine pU12 7 96 17 1791 HT_ HW_ hHeld ?_
  refine pQ 8 97 17 2047 HT_ ?_
  refine pU12 11 100 17 4095 HT_ HW_ hHeld ?_
  refine pQ 12 101 17 8191 HT_ ?_
  refine pU12 13 102 17 16383 HT_ HW_ hHeld ?_
  refine pQ 14 103 17 32767 HT_ ?_
  refine pQ 15 104 17 65535 HT_ ?_
  refine last_ (i:=16) (N:=none) (bm 17 131071) rfl rfl (one_of HT_.out (by kernel_rfl)) (by decide) (fun K hK=>?_)
  refine skip_ (w1:=?_) (by rfl) rfl ?_ ?_
  rotate_left
  ·go_simp
   rfl
  refine hK.out _ _ ?_
  clear hK K
  refine dN HT_ ?_
  try go_wp2_with (first|((with_reducible refine gC 41 rfl ?_);refine goesL_ (some 108) rfl rfl Try.func41 (by kernel_rfl) rfl #[.slice (some yx) l2.length c2,.slice (some ⟨yu,0,none⟩) zh.length z4] rfl (by(try simp only [List.map_toArray,List.map_cons,List.map_nil]);first|done|(rw [show zh.length=l4.length from (Kd.R_reads' HQ60.out).1.symm] <;> rfl)|rfl|(simp only [List.length_drop,List.length_take];rfl)) ?_;(with_reducible refine(fco.calls k _ _ l2 _ _ zh t409 t410 _ ?s1 HC2.out ?s3 ?s4 A56.out).mono ?_);(case s1=>exact Kd.C_kept_now HR2.out (by repeat(first|(with_reducible first|exact HK.out|apply Kept.alloc|apply Kept.drewN|apply Kept.drew|refine Kept.setCell ?_ HMgo55.out _|refine Kept.setCell ?_ (.inr zc.out) _)|exact HK.out)));(case s3=>refine(Kd.R_reads' (e:=3) (base:=w0.heap.size) (ok:=fun k_=>(P4_ k_∨w.heap.size≤k_)) (n:=l4.length) (c:=z4) ?_).2.2;exact(pR HQ60.out));(case s4=>rw [show zh.length=l4.length from (Kd.R_reads' HQ60.out).1.symm];exact sL HO4);rintro e w' ⟨rfl,⟨nd,rfl⟩⟩;refine⟨_,rfl,?_⟩))
  go_ret
  exact⟨pE,pR HQ60.out,qB2 HB GB55 zd,by repeat(first|(with_reducible first|exact HK.out|apply Kept.alloc|apply Kept.drewN|apply Kept.drew|refine Kept.setCell ?_ HMgo55.out _|refine Kept.setCell ?_ (.inr zc.out) _)|exact HK.out)⟩
 rw [ip c26] at H
 have y3:=bT c26
 have y4:=nF c26
 clear c26
 by_cases c27:0≤ya
 rotate_left
 ·rw [iN c27] at H
  cases H
 rw [ip c27] at H
 have c27b0:=dT c27
 clear c27
 by_cases c28:ya < (l4.length:Int)
 rotate_left
 ·rw [iN c28] at H
  cases H
 rw [ip c28] at H
 have c28b0:=dT c28
 clear c28
 obtain⟨ze,zm⟩:∃ y_:List Int,y_=(l4.set (ya:Int).toNat (wrap64 (yd + (wrap64 ((rd l4 ya) * ye))))):=⟨_,rfl⟩
 replace H:(if yh=1 then((some (ze.set (ya:Int).toNat yd:List Int)).bind fun zg=>((fco.f k l2 zg).bind fun bt400=>(some (bt400.1,zg))))else((fco.f k l2 ze).bind fun bt402=>(some (bt402.1,ze))))=some (r1,r2):=pH zm H
 have zr:=aM zm
 clear zm
 by_cases c30:yh=1
 rotate_left
 ·rw [iN c30] at H
  have y9:=bF c30
  have yaa:=nT c30
  replace H:=oB H
  obtain⟨⟨t402,t403⟩,z8,H⟩:=H
  try dsimp only at H
  have A41:=aM z8
  clear z8
  replace H:=oi2 H
  obtain⟨rfl,rfl⟩:=H
  go_enter Try.func40,Try.ntmps40
  try go_wp2_with (first|((with_reducible refine gD 7 rfl ?_);refine bX 7 24 (aT ya yd yh ye yj yk yl ym yn yo yb.length yp) ?_;intro zb hg w42 hbox hb;replace HO4:=bR HO4 hb;have za:=aM (hbox);have zc:=aM ((by rw [hg];exact(by first|exact HK.out.1|exact(show Kept w _ (fun k_=>P4_ k_) from by repeat(first|(with_reducible first|exact HK.out|apply Kept.alloc|apply Kept.drewN|apply Kept.drew)|exact HK.out)).1):w.heap.size≤zb));replace HK:=aM (Kept.below (S:=(fun k_=>P4_ k_)) (by repeat(first|(with_reducible first|exact HK.out|apply Kept.alloc|apply Kept.drewN|apply Kept.drew)|exact HK.out)) hb);have zd:=gE (w:=w0) hg (qB HB);replace HB:=bS (qB HB) hb;clear hb hbox hg))
  replace HO4:=aM (Kd.R_drew HO4.out)
  replace za:=aM (blk_drew za.out)
  replace HK:=aM (Kept.drew HK.out)
  replace HB:=aM (below_drew1 HB.out)
  obtain⟨Ao44,z9,zaa⟩:=Kd.R_slice HO4.out
  (first|subst zaa|(injection zaa with f1_ f2_ f3_;have f4_:=f1_.symm;have f5_:=f3_.symm;clear f1_ f2_ f3_;subst f4_;subst f5_))
  obtain⟨yab,⟨⟩,yg,yao,yap⟩:=zI (Kd.R_reads' HO4.out).2.2 ya
  have p29:0≤(ya:Int):=oD
  have q29:(ya:Int) < ((l4.length:Int):Int):=oD
  obtain⟨yf,yas,zn,zo,gl29,cl29,HG29⟩:=Kd.R_form HO4.out (by omega)
  (first|cases zn|(injection zn with ea_ en_ ec_;(first|subst ea_|(injection ea_ with ea_;subst ea_));subst ec_;clear en_))
  have GB29:=aM zo
  have GG29:=aM HG29
  clear zo gl29 HG29
  have HMgo29:=aM (show (P4_ yf∨w.heap.size≤yf) from (HO4.out.1 _ rfl))
  (first|simp only [add_plain] at yg|skip)
  obtain⟨ys,hf29_0⟩:=Kd.R_celln 0 HO4.out (ya:Int) p29 q29
  have HP45:=Kd.R_putn HO4.out (ya:Int) (wrap64 (yd + (wrap64 ((rd l4 ya) * ye))))
  rw [← zr.out] at HP45
  have HQ45:=aM HP45
  clear HP45
  refine sT 16 [15] (fun w'=>w'.cell? ⟨zb,0,none⟩=some (.int .i64 ya)∧w'.cell? ⟨zb,1,none⟩=some (.int .i64 yd)∧w'.cell? ⟨zb,2,none⟩=some (.int .i64 yh)∧w'.cell? ⟨zb,3,none⟩=some (.int .i64 ye)∧w'.cell? ⟨zb,4,none⟩=some (.int .i64 yj)∧w'.cell? ⟨zb,5,none⟩=some (.int .i64 yk)∧w'.cell? ⟨zb,6,none⟩=some (.int .i64 yl)∧w'.cell? ⟨zb,7,none⟩=some (.int .i64 ym)∧w'.cell? ⟨zb,8,none⟩=some (.bool yn)∧w'.cell? ⟨zb,9,none⟩=some (.slice yo yb.length yp)∧w'.cell? ⟨yf,(ya).toNat,none⟩=some (.int .i64 (rd l4 ya))) fbn.tab12 fbn.bits12 (c10 za yg) (fun hHeld HT_ HW_=>?_)
  generalize w42.drew=w43 at HO4 za HK HB GG29 HQ45 hf29_0 ys yg hHeld ⊢
  refine pQ 0 48 16 1 HT_ ?_
  refine pQ 1 49 16 3 HT_ ?_
  refine pQ 3 51 16 11 HT_ ?_
  refine pQ 5 53 16 43 HT_ ?_
  refine pQ 6 54 16 107 HT_ ?_
  refine pQ 10 58 16 1131 HT_ ?_
  refine pU11 2 50 16 1135 HT_ HW_ hHeld ?_
  refine pU11 4 52 16 1151 HT_ HW_ hHeld ?_
  refine pU11 7 55 16 1279 HT_ HW_ hHeld ?_
  refine pQ 8 56 16 1535 HT_ ?_
  refine pU11 9 57 16 2047 HT_ HW_ hHeld ?_
  refine pU11 11 59 16 4095 HT_ HW_ hHeld ?_
  refine pQ 12 60 16 8191 HT_ ?_
  refine pQ 13 61 16 16383 HT_ ?_
  refine pQ 14 62 16 32767 HT_ ?_
  refine last_ (i:=15) (N:=none) (bm 16 65535) rfl rfl (one_of HT_.out (by kernel_rfl)) (by decide) (fun K hK=>?_)
  refine skip_ (w1:=?_) (by rfl) rfl ?_ ?_
  rotate_left
  ·go_simp
   rfl
  refine hK.out _ _ ?_
  clear hK K
  refine dN HT_ ?_
  have hne_:yf≠zb:=by have h_:=Kd.R_ne HO4.out za.out (by decide);intro e_;exact h_ (by rw [e_];rfl)
  have hne2_:zb≠yf:=fun e_=>hne_ e_.symm
  have hcz46:=blk10 za.out
  try go_wp2_with (first|((with_reducible refine gC 41 rfl ?_);refine goesL_ (some 75) rfl rfl Try.func41 (by kernel_rfl) rfl #[.slice A2 l2.length c2,.slice (some ⟨yf,0,none⟩) ze.length z9] rfl (by(try simp only [List.map_toArray,List.map_cons,List.map_nil]);first|done|(rw [show ze.length=l4.length from (Kd.R_reads' HQ45.out).1.symm] <;> rfl)|rfl|(simp only [List.length_drop,List.length_take];rfl)) ?_;(with_reducible refine(fco.calls k _ _ l2 _ _ ze t402 t403 _ ?s1 HC2.out ?s3 ?s4 A41.out).mono ?_);(case s1=>exact Kd.C_kept_now HR2.out (by repeat(first|(with_reducible first|exact HK.out|apply Kept.alloc|apply Kept.drewN|apply Kept.drew|refine Kept.setCell ?_ HMgo29.out _|refine Kept.setCell ?_ (.inr zc.out) _)|exact HK.out)));(case s3=>refine(Kd.R_reads' (e:=3) (base:=w0.heap.size) (ok:=fun k_=>(P4_ k_∨w.heap.size≤k_)) (n:=l4.length) (c:=z9) ?_).2.2;exact(pR HQ45.out));(case s4=>rw [show ze.length=l4.length from (Kd.R_reads' HQ45.out).1.symm];exact sL HO4);rintro e w' ⟨rfl,⟨nd,rfl⟩⟩;refine⟨_,rfl,?_⟩))
  go_ret
  exact⟨pE,pR HQ45.out,qB2 HB GB29 zd,by repeat(first|(with_reducible first|exact HK.out|apply Kept.alloc|apply Kept.drewN|apply Kept.drew|refine Kept.setCell ?_ HMgo29.out _|refine Kept.setCell ?_ (.inr zc.out) _)|exact HK.out)⟩
 rw [ip c30] at H
 have y9:=bT c30
 have yaa:=nF c30
 clear c30
 obtain⟨zg,zp⟩:∃ y_:List Int,y_=(ze.set (ya:Int).toNat yd):=⟨_,rfl⟩
 replace H:((fco.f k l2 zg).bind fun bt400=>(some (bt400.1,zg)))=some (r1,r2):=pH zp H
 have Ny399:=aM zp
 clear zp
 replace H:=oB H
 obtain⟨⟨t400,t401⟩,zab,H⟩:=H
 try dsimp only at H
 have A32:=aM zab
 clear zab
 replace H:=oi2 H
 obtain⟨rfl,rfl⟩:=H
 go_enter Try.func40,Try.ntmps40
 try go_wp2_with (first|((with_reducible refine gD 7 rfl ?_);refine bX 7 24 (aT ya yd yh ye yj yk yl ym yn yo yb.length yp) ?_;intro zb hg w33 hbox hb;replace HO4:=bR HO4 hb;have za:=aM (hbox);have zc:=aM ((by rw [hg];exact(by first|exact HK.out.1|exact(show Kept w _ (fun k_=>P4_ k_) from by repeat(first|(with_reducible first|exact HK.out|apply Kept.alloc|apply Kept.drewN|apply Kept.drew)|exact HK.out)).1):w.heap.size≤zb));replace HK:=aM (Kept.below (S:=(fun k_=>P4_ k_)) (by repeat(first|(with_reducible first|exact HK.out|apply Kept.alloc|apply Kept.drewN|apply Kept.drew)|exact HK.out)) hb);have zd:=gE (w:=w0) hg (qB HB);replace HB:=bS (qB HB) hb;clear hb hbox hg))
 replace HO4:=aM (Kd.R_drew HO4.out)
 replace za:=aM (blk_drew za.out)
 replace HK:=aM (Kept.drew HK.out)
 replace HB:=aM (below_drew1 HB.out)
 obtain⟨Ao35,zu,zac⟩:=Kd.R_slice HO4.out
 (first|subst zac|(injection zac with f1_ f2_ f3_;have f4_:=f1_.symm;have f5_:=f3_.symm;clear f1_ f2_ f3_;subst f4_;subst f5_))
 obtain⟨yab,⟨⟩,yg,yao,yap⟩:=zI (Kd.R_reads' HO4.out).2.2 ya
 have p29:0≤(ya:Int):=oD
 have q29:(ya:Int) < ((l4.length:Int):Int):=oD
 obtain⟨yf,yas,zn,zo,gl29,cl29,HG29⟩:=Kd.R_form HO4.out (by omega)
 (first|cases zn|(injection zn with ea_ en_ ec_;(first|subst ea_|(injection ea_ with ea_;subst ea_));subst ec_;clear en_))
 have GB29:=aM zo
 have GG29:=aM HG29
 clear zo gl29 HG29
 have HMgo29:=aM (show (P4_ yf∨w.heap.size≤yf) from (HO4.out.1 _ rfl))
 (first|simp only [add_plain] at yg|skip)
 obtain⟨ys,hf29_0⟩:=Kd.R_celln 0 HO4.out (ya:Int) p29 q29
 have HP36:=Kd.R_putn HO4.out (ya:Int) (wrap64 (yd + (wrap64 ((rd l4 ya) * ye))))
 rw [← zr.out] at HP36
 have HQ36:=aM HP36
 clear HP36
 refine sT 16 [15] (fun w'=>w'.cell? ⟨zb,0,none⟩=some (.int .i64 ya)∧w'.cell? ⟨zb,1,none⟩=some (.int .i64 yd)∧w'.cell? ⟨zb,2,none⟩=some (.int .i64 yh)∧w'.cell? ⟨zb,3,none⟩=some (.int .i64 ye)∧w'.cell? ⟨zb,4,none⟩=some (.int .i64 yj)∧w'.cell? ⟨zb,5,none⟩=some (.int .i64 yk)∧w'.cell? ⟨zb,6,none⟩=some (.int .i64 yl)∧w'.cell? ⟨zb,7,none⟩=some (.int .i64 ym)∧w'.cell? ⟨zb,8,none⟩=some (.bool yn)∧w'.cell? ⟨zb,9,none⟩=some (.slice yo yb.length yp)∧w'.cell? ⟨yf,(ya).toNat,none⟩=some (.int .i64 (rd l4 ya))) fbn.tab12 fbn.bits12 (c10 za yg) (fun hHeld HT_ HW_=>?_)
 generalize w33.drew=w34 at HO4 za HK HB GG29 HQ36 hf29_0 ys yg hHeld ⊢
 refine pQ 0 48 16 1 HT_ ?_
 refine pQ 1 49 16 3 HT_ ?_
 refine pQ 3 51 16 11 HT_ ?_
 refine pQ 5 53 16 43 HT_ ?_
 refine pQ 6 54 16 107 HT_ ?_
 refine pQ 10 58 16 1131 HT_ ?_
 refine pU11 2 50 16 1135 HT_ HW_ hHeld ?_
 refine pU11 4 52 16 1151 HT_ HW_ hHeld ?_
 refine pU11 7 55 16 1279 HT_ HW_ hHeld ?_
 refine pQ 8 56 16 1535 HT_ ?_
 refine pU11 9 57 16 2047 HT_ HW_ hHeld ?_
 refine pU11 11 59 16 4095 HT_ HW_ hHeld ?_
 refine pQ 12 60 16 8191 HT_ ?_
 refine pQ 13 61 16 16383 HT_ ?_
 refine pQ 14 62 16 32767 HT_ ?_
 refine last_ (i:=15) (N:=none) (bm 16 65535) rfl rfl (one_of HT_.out (by kernel_rfl)) (by decide) (fun K hK=>?_)
 refine skip_ (w1:=?_) (by rfl) rfl ?_ ?_
 rotate_left
 ·go_simp
  rfl
 refine hK.out _ _ ?_
 clear hK K
 refine dN HT_ ?_
 have n0_:Aside0 (Kd.R (Kd.int .i64) 3 (w34.setCell ⟨yf,(ya:Int).toNat,none⟩ (.int .i64 (wrap64 (yd + (wrap64 ((rd l4 ya) * ye)))))) w0.heap.size (fun k_=>(P4_ k_∨w.heap.size≤k_)) (.slice (some ⟨yf,0,none⟩) l4.length zu) ze):=⟨pR HQ36.out⟩
 have n1_:Aside0 ((w34.setCell ⟨yf,(ya:Int).toNat,none⟩ (.int .i64 (wrap64 (yd + (wrap64 ((rd l4 ya) * ye)))))).heap[zb]?=some (.cells (aT ya yd yh ye yj yk yl ym yn yo yb.length yp) 24 (0,0))):=⟨by(with_reducible repeat(first|apply bN|apply bD|apply bA));refine blk_far ?_ (by have h_:=Kd.R_ne HO4.out za.out (by decide);intro e_;exact h_ (by rw [e_];rfl)) _;(with_reducible repeat(first|apply bN|apply bD|apply bA));exact za.out⟩
 have n2_:Aside0 (Kept w (w34.setCell ⟨yf,(ya:Int).toNat,none⟩ (.int .i64 (wrap64 (yd + (wrap64 ((rd l4 ya) * ye)))))) (fun k_=>P4_ k_)):=⟨by repeat(first|(with_reducible first|exact HK.out|apply Kept.alloc|apply Kept.drewN|apply Kept.drew|refine Kept.setCell ?_ HMgo29.out _|refine Kept.setCell ?_ (.inr zc.out) _)|exact HK.out)⟩
 have n3_:Aside0 (Below w0.heap.size w0 (w34.setCell ⟨yf,(ya:Int).toNat,none⟩ (.int .i64 (wrap64 (yd + (wrap64 ((rd l4 ya) * ye))))))):=⟨qB2 HB GB29 zd⟩
 (try clear HO4)
 (try clear za)
 (try clear HK)
 (try clear HB)
 generalize (w34.setCell ⟨yf,(ya:Int).toNat,none⟩ (.int .i64 (wrap64 (yd + (wrap64 ((rd l4 ya) * ye))))))=w37 at n0_ n1_ n2_ n3_ ⊢
 have HO4:=n0_
 have za:=n1_
 have HK:=n2_
 have HB:=n3_
 clear n0_ n1_ n2_ n3_
 have hcz38:=blk10 za.out
 have p31:0≤(ya:Int):=oD
 have q31:(ya:Int) < ((l4.length:Int):Int):=oD
 obtain⟨hy39_,hz39_⟩:=Kd.R_celln 0 HO4.out (ya:Int) (of_decide_eq_true pD) (of_decide_eq_true pD)
 have HP39:=Kd.R_putg HO4.out (ya:Int) yd
 try go_wp2_with (first|((with_reducible refine gate_store (t:=3) (p:=71) rfl ?_);refine store_event (t:=3) (p:=71) (v:=?vo_w40) (w1:=(w37.setCell ⟨yf,(ya:Int).toNat,none⟩ (.int .i64 yd))) ?hg ?ho ?hn ?hr ?_;(case ho=>rfl);(case hg=>rfl);(case hn=>rfl);(case hr=>first|(go_simp;done)|(go_simp;rfl));intro w40 hw;have hg:w37.grownBy w40 (some yf):=(by rw [hw];exact HP39.2);have hp_:Kd.R (Kd.int .i64) 3 w40 w0.heap.size (fun k_=>(P4_ k_∨w.heap.size≤k_)) (.slice (some ⟨yf,0,none⟩) l4.length zu) zg:=(by rw [hw,Ny399.out];exact HP39.1);clear HP39;replace za:=aM (blk_grown (g:=zb) (pK za.out) hg (Kd.R_ne HO4.out za.out (by decide)));replace HB:=aM ((by rw [hw];exact below_set (HB.out) GB29.out:Below w0.heap.size w0 w40));replace HK:=aM (Kept.of_grown (S:=(fun k_=>P4_ k_)) hg (by repeat(first|(with_reducible first|exact HK.out|apply Kept.alloc|apply Kept.drewN|apply Kept.drew|refine Kept.setCell ?_ (.inr zc.out) _)|exact HK.out)) (fun k_ e_=>(HO4.out.1 k_ e_)));replace HO4:=aM (hp_);clear hg hw hp_)|((with_reducible refine gC 41 rfl ?_);refine goesL_ (some 75) rfl rfl Try.func41 (by kernel_rfl) rfl #[.slice A2 l2.length c2,.slice (some ⟨yf,0,none⟩) zg.length zu] rfl (by(try simp only [List.map_toArray,List.map_cons,List.map_nil]);first|done|(rw [show zg.length=l4.length from (Kd.R_reads' HO4.out).1.symm] <;> rfl)|rfl|(simp only [List.length_drop,List.length_take];rfl)) ?_;(with_reducible refine(fco.calls k _ _ l2 _ _ zg t400 t401 _ ?s1 HC2.out ?s3 ?s4 A32.out).mono ?_);(case s1=>exact Kd.C_kept_now HR2.out (by repeat(first|(with_reducible first|exact HK.out|apply Kept.alloc|apply Kept.drewN|apply Kept.drew|refine Kept.setCell ?_ (.inr zc.out) _)|exact HK.out)));(case s3=>exact sR HO4);(case s4=>rw [show zg.length=l4.length from (Kd.R_reads' HO4.out).1.symm];exact sL HO4);rintro e w' ⟨rfl,⟨nd,rfl⟩⟩;refine⟨_,rfl,?_⟩))
 go_ret
 exact⟨pE,pR HO4.out,qB1 HB zd,by repeat(first|(with_reducible first|exact HK.out|apply Kept.alloc|apply Kept.drewN|apply Kept.drew|refine Kept.setCell ?_ (.inr zc.out) _)|exact HK.out)⟩
def fbg.j0:Nat→Int→List (List Int)→Int→List Int→List Int→Bool→Int→Int→Int→Int→Int→Int→Int→Int→Bool→List Int→Option (Int×Int×Bool)
 | 0,_,_,_,_,_,_,_,_,_,_,_,_,_,_,_,_=>none
 | k + 1,x0,x2,x3,x11,x13,x41,ze,yag,yah,yai,yaj,yak,yal,yam,yan,zk=>if x41=true then(some (0,0,false))else(if x0=38 then(if 0≤ze then(if ze < (x13.length:Int)then(if 0≤(rd x13 ze)then(if(rd x13 ze) < (zk.length:Int)then(if 0 < (x2.length:Int)then((fco.f k (rd_L1 x2 0) (x13.set (ze:Int).toNat (rd zk (rd x13 ze)))).bind fun bt424=>(some (0,bt424.1,true)))else(none))else(none))else(none))else(none))else(none))else(if x0=40 then(if 0 < (x2.length:Int)then(if 0≤ze then(if ze < ((rd_L1 x2 0).length:Int)then(if ze < (x13.length:Int)then(if(rd x13 ze) ≥ (rd (rd_L1 x2 0) ze)then(if 1 < (x2.length:Int)then((fco.f k (rd_L1 x2 1) (x13.set (ze:Int).toNat (wrap64 ((rd x13 ze) - (rd (rd_L1 x2 0) ze))))).bind fun bt432=>(some (1,bt432.1,true)))else(none))else((fco.f k (rd_L1 x2 0) x13).bind fun bt435=>(some (0,bt435.1,true))))else(none))else(none))else(none))else(none))else(if 0 < (x2.length:Int)then((fbn.f k x0 ze yag yah yai yaj yak yal yam yan zk (rd_L1 x2 0) x11 x13 x3).bind fun bt438=>(some (0,bt438.1,true)))else(none))))
def fbg.f (k:Nat) (a0:Int) (ya:Int) (ye:Int) (yf:Int) (yg:Int) (yh:Int) (yi:Int) (yj:Int) (yk:Int) (yl:Bool) (yc:List Int) (l2:List (List Int)) (a3:Int):Option (Int×Int×Bool):=(fbf.f k a0 ya ye yf yg yh yi yj yk yl yc l2).bind fun bt412=>((fcn.f k bt412.1 a3).bind fun bt416=>(if bt412.2=0 then(if bt416.2=true then(fbg.j0 k a0 l2 a3 bt412.1 bt416.1 (a0 == 39) ya ye yf yg yh yi yj yk yl yc)else(fbg.j0 k a0 l2 a3 bt412.1 bt416.1 true ya ye yf yg yh yi yj yk yl yc))else(fbg.j0 k a0 l2 a3 bt412.1 bt416.1 true ya ye yf yg yh yi yj yk yl yc)))
def fbg.T7:TT:=(true,[([],[]),([],[]),([],[]),([2],[2]),([3],[3]),([],[]),([],[]),([],[]),([0,1,4,5,6,7],[0,1,4,5,6,7]),([8],[]),([8,9,0,1,2,3,4,5,6,7,8,9],[8]),([10,0,1,2,3,4,5,6,7,8,9,10],[])])
def fbg.B7:List Nat:=[0,0,0,4,12,0,0,0,255,511,1023,2047]
theorem fbg.tab7:rtab .any (opsOf Try.f15 7)=fbg.T7:=by kernel_rfl
theorem fbg.bits7:waitsOk fbg.T7.2 fbg.B7=true:=by kernel_rfl
def fbg.T9:TT:=(true,[([],[]),([],[]),([1],[1]),([],[]),([3],[3]),([],[]),([],[]),([6],[6]),([5,7],[5,7]),([8],[8]),([4,9],[4,9]),([10],[10]),([0,2,0,1,2,3,4,5,6,7,8,9,10,11],[0,2]),([12,11,0,1,2,3,4,5,6,7,8,9,10,11],[11,12])])
def fbg.B9:List Nat:=[0,0,2,0,8,0,0,64,224,480,1016,2040,4095,8191]
theorem fbg.tab9:rtab .any (opsOf Try.f15 9)=fbg.T9:=by kernel_rfl
theorem fbg.bits9:waitsOk fbg.T9.2 fbg.B9=true:=by kernel_rfl
def fbg.T11:TT:=(true,[([],[]),([0],[0]),([1],[1]),([],[]),([3],[3]),([2,4],[2,4]),([5],[5]),([6,0,1,2,3,4,5,6],[6])])
def fbg.B11:List Nat:=[0,1,3,0,8,31,63,127]
theorem fbg.tab11:rtab .any (opsOf Try.f15 11)=fbg.T11:=by kernel_rfl
theorem fbg.bits11:waitsOk fbg.T11.2 fbg.B11=true:=by kernel_rfl
theorem fbg.calls (k:Nat) (a0:Int) (ya:Int) (ye:Int) (yf:Int) (yg:Int) (yh:Int) (yi:Int) (yj:Int) (yk:Int)(yl:Bool)(yw:Option Addr)(yu:Nat)(yc:List Int)(A2:Option Addr)(c2:Nat)(l2:List (List Int)) (a3:Int) (r1:Int) (r2:Int)(r3:Bool)(w:World)(yaz:Kd.C (Kd.int .i64) w yw yc.length yc)(ya0:yc.length≤yu)(hr2:Kd.C (Kd.slice 3 (Kd.int .i64)) w A2 l2.length l2)(hc2:l2.length≤c2)(h:fbg.f k a0 ya ye yf yg yh yi yj yk yl yc l2 a3=some (r1,r2,r3)) :
  Calls Try.prog 15 #[.int .i64 a0,.agg #[.int .i64 ya,.int .i64 ye,.int .i64 yf,.int .i64 yg,.int .i64 yh,.int .i64 yi,.int .i64 yj,.int .i64 yk,.bool yl,.slice yw yc.length yu],.slice A2 l2.length c2,.int .i64 a3] w fun e w'=>e=.returned (.tuple #[.int .i64 r1,.int .i64 r2,.bool r3])∧Below w.heap.size w w':=by
 have hu24:=Try.underlying24
 have zr:=aM yaz
 have zz:=aM ya0
 clear yaz ya0
 have HR2:=aM hr2
 have HC2:=aM hc2
 clear hr2 hc2
 have HB:=aM (Below.refl w.heap.size w)
 have H:((fbf.f k a0 ya ye yf yg yh yi yj yk yl yc l2).bind fun bt412=>((fcn.f k bt412.1 a3).bind fun bt416=>(if bt412.2=0 then(if bt416.2=true then(fbg.j0 k a0 l2 a3 bt412.1 bt416.1 (a0 == 39) ya ye yf yg yh yi yj yk yl yc)else(fbg.j0 k a0 l2 a3 bt412.1 bt416.1 true ya ye yf yg yh yi yj yk yl yc))else(fbg.j0 k a0 l2 a3 bt412.1 bt416.1 true ya ye yf yg yh yi yj yk yl yc))))=some (r1,r2,r3):=h
 clear h
 replace H:=oB H
 obtain⟨⟨zj,zn⟩,A50,H⟩:=H
 try dsimp only at H
 have A5:=aM A50
 clear A50
 replace H:=oB H
 obtain⟨⟨zd,z0⟩,A60,H⟩:=H
 try dsimp only at H
 have A6:=aM A60
 clear A60
 have HC7:=aM H
 clear H
 go_enter Try.func15,Try.ntmps15
 go_upto_region 3 with(first|((with_reducible refine gD 5 rfl ?_);refine bX 5 24 (aT ya ye yf yg yh yi yj yk yl yw yc.length yu) ?_;intro zb hg w8 hbox hb;have za:=aM (hbox);have GW411:=gE (w:=w) hg (qB HB);have zg:=GW411;replace HB:=bS (qB HB) hb;clear hb hbox hg;have hcz9:=blk10 za.out)|((with_reducible refine gC 10 rfl ?_);refine gL 23 Try.func10 #[.int .i64 a0,.agg (aT ya ye yf yg yh yi yj yk yl yw yc.length yu),.slice A2 l2.length c2] ?_;(with_reducible refine(fbf.calls k a0 ya ye yf yg yh yi yj yk yl _ _ yc _ _ l2 zj zn _ ?s1 zz.out ?s3 HC2.out A5.out).mono ?_);(case s1=>exact sC zr HB);(case s3=>exact sC HR2 HB);rintro e w10 ⟨v413,rfl,ho0,hb⟩;refine⟨_,rfl,?_⟩;have zh:=aM (Kd.R_lower ho0 (below_size (qB1 HB zg)));replace za:=bK za hb;replace HB:=bS (qB1 HB zg) hb;(try clear hb);(try clear hk);(try clear hi);(try clear ho0);obtain⟨zo,zp,ybm⟩:=Kd.R_slice zh.out;subst ybm)|((with_reducible refine gC 39 rfl ?_);refine gL 29 Try.func39 #[.slice zo zj.length zp,.int .i64 a3] ?_;(with_reducible refine(fcn.calls k _ _ zj a3 zd z0 _ ?s1 ?s2 A6.out).mono ?_);(case s1=>exact sR zh);(case s2=>exact sL zh);rintro e w12 ⟨z1,rfl,ho0,hb⟩;refine⟨_,rfl,?_⟩;have zs:=aM (Kd.R_lower (Kd.R_new' ho0 (Kd.R_lt (pR zh.out))) (below_size (qB1 HB zg)));replace zh:=eR zh ho0 hb;replace za:=bK za hb;replace HB:=bS (qB1 HB zg) hb;(try clear hb);(try clear hk);(try clear hi);(try clear ho0)))
 (try simp only [Act.put,sP])
 go_cut [41] (fun v41 wc=>∃ (kq:Nat) (y1:Bool),v41=.bool y1∧Aside0 (fbg.j0 kq a0 l2 a3 zj zd y1 ya ye yf yg yh yi yj yk yl yc=some (r1,r2,r3))∧Aside0 (kq≤k)∧Aside0 (Kd.R (Kd.int .i64) 3 wc w.heap.size (fun k_=>some k_≠(z1:Value).ownBlock) (.slice zo zj.length zp) zj)∧Aside0 (Kd.R (Kd.int .i64) 3 wc w.heap.size (fun k_=>some k_≠((.slice zo zj.length zp):Value).ownBlock) z1 zd)∧Aside0 (wc.heap[zb]?=some (.cells (aT ya ye yf yg yh yi yj yk yl yw yc.length yu) 24 (0,0)))∧Aside0 (Below w.heap.size w wc))
 case first =>
  have H:=HC7.out
  clear HC7
  by_cases c13:zn=0
  rotate_left
  ·rw [iN c13] at H
   have zl:=bF c13
   have ybb:=nT c13
   (first|rw [zl]|(simp only [i64_w,i32_w];rw [zl])|skip)
   have H':=aM H
   clear H
   go_wp2
   go_meet
   case rel=>exact⟨_,(true),(pF),H',⟨pO⟩,⟨by(with_reducible repeat(first|apply rA|apply rN|apply rD));exact Kd.R_mono zh.out (fun _ hk=>hk.2)⟩,⟨by(with_reducible repeat(first|apply rA|apply rN|apply rD));exact Kd.R_mono zs.out (fun _ hk=>hk.2)⟩,⟨pK za.out⟩,⟨qB1 HB zg⟩⟩
  rw [ip c13] at H
  have zl:=bT c13
  have ybb:=nF c13
  clear c13
  (first|rw [zl]|(simp only [i64_w,i32_w];rw [zl])|skip)
  by_cases c14:z0=true
  ·subst c14
   rw [ip rfl] at H
   have H':=aM H
   clear H
   go_wp2
   go_meet
   case rel=>exact⟨_,((a0 == 39)),(pF),H',⟨pO⟩,⟨by(with_reducible repeat(first|apply rA|apply rN|apply rD));exact Kd.R_mono zh.out (fun _ hk=>hk.2)⟩,⟨by(with_reducible repeat(first|apply rA|apply rN|apply rD));exact Kd.R_mono zs.out (fun _ hk=>hk.2)⟩,⟨pK za.out⟩,⟨qB1 HB zg⟩⟩
  replace c14:=Bool.eq_false_iff.mpr c14
  subst c14
  rw [iN (show ¬ (false=true) by decide)] at H
  have H':=aM H
  clear H
  go_wp2
  go_meet
  case rel=>exact⟨_,(true),(pF),H',⟨pO⟩,⟨by(with_reducible repeat(first|apply rA|apply rN|apply rD));exact Kd.R_mono zh.out (fun _ hk=>hk.2)⟩,⟨by(with_reducible repeat(first|apply rA|apply rN|apply rD));exact Kd.R_mono zs.out (fun _ hk=>hk.2)⟩,⟨pK za.out⟩,⟨qB1 HB zg⟩⟩
 clear HC7
 try clear c2
 try clear hcz9
 obtain⟨kq,y1,rfl,HA,HJ6,zf,zc,za,HB⟩:=hcut
 cases kq with
 | zero=>exact absurd HA.out (by simp [fbg.j0])
 | succ kj6=>?_
 have H:=HA.out
 clear HA
 simp only [fbg.j0] at H
 by_cases c15:y1=true
 ·subst c15
  rw [ip rfl] at H
  replace H:=oi3 H
  obtain⟨rfl,rfl,rfl⟩:=H
  go_wp2
  go_ret3
  exact⟨pE,qB1 HB zg⟩
 replace c15:=Bool.eq_false_iff.mpr c15
 subst c15
 rw [iN (show ¬ (false=true) by decide)] at H
 by_cases c16:a0=38
 ·rw [ip c16] at H
  have ybc:=bT c16
  have ybd:=nF c16
  clear c16
  by_cases c17:0≤ya
  rotate_left
  ·rw [iN c17] at H
   cases H
  rw [ip c17] at H
  have c17b0:=dT c17
  clear c17
  by_cases c18:ya < (zd.length:Int)
  rotate_left
  ·rw [iN c18] at H
   cases H
  rw [ip c18] at H
  have c18b0:=dT c18
  clear c18
  by_cases c19:0≤(rd zd ya)
  rotate_left
  ·rw [iN c19] at H
   cases H
  rw [ip c19] at H
  have c19b0:=dT c19
  clear c19
  by_cases c20:(rd zd ya) < (yc.length:Int)
  rotate_left
  ·rw [iN c20] at H
   cases H
  rw [ip c20] at H
  have c20b0:=dT c20
  clear c20
  obtain⟨zt,zu⟩:∃ y_:List Int,y_=(zd.set (ya:Int).toNat (rd yc (rd zd ya))):=⟨_,rfl⟩
  replace H:(if 0 < (l2.length:Int)then((fco.f kj6 (rd_L1 l2 0) zt).bind fun bt424=>(some (0,bt424.1,true)))else(none))=some (r1,r2,r3):=pH zu H
  have Ny422:=aM zu
  clear zu
  by_cases c22:0 < (l2.length:Int)
  rotate_left
  ·rw [iN c22] at H
   cases H
  rw [ip c22] at H
  have c22b0:=dT c22
  have c22b1:decide (0 < l2.length)=true:=decide_eq_true (by omega)
  clear c22
  replace H:=oB H
  obtain⟨⟨t424,t425⟩,z2,H⟩:=H
  try dsimp only at H
  have A23:=aM z2
  clear z2
  replace H:=oi3 H
  obtain⟨rfl,rfl,rfl⟩:=H
  try go_wp2
  replace zf:=aM (Kd.R_drew zf.out)
  replace zc:=aM (Kd.R_drew zc.out)
  replace za:=aM (blk_drew za.out)
  replace HB:=aM (below_drew1 HB.out)
  obtain⟨Ao25,z3,z4⟩:=Kd.R_slice zc.out
  (first|subst z4|(injection z4 with f1_ f2_ f3_;have f4_:=f1_.symm;have f5_:=f3_.symm;clear f1_ f2_ f3_;subst f4_;subst f5_))
  obtain⟨ad420,⟨⟩,yx,p420,q420⟩:=zI (Kd.R_reads' zc.out).2.2 ya
  obtain⟨ya1,⟨⟩,y2,p421,q421⟩:=zI zr.out (rd zd ya)
  have yao:=zW HB y2
  have p21:0≤(ya:Int):=oD
  have q21:(ya:Int) < ((zd.length:Int):Int):=oD
  obtain⟨yap,co21,z5,z6,gl21,cl21,HG21⟩:=Kd.R_form zc.out (by omega)
  (first|cases z5|(injection z5 with ea_ en_ ec_;(first|subst ea_|(injection ea_ with ea_;subst ea_));subst ec_;clear en_))
  have GB21:=aM z6
  have GG21:=aM HG21
  clear z6 gl21 HG21
  (first|simp only [add_plain] at yx|skip)
  obtain⟨ya2,hf21_0⟩:=Kd.R_celln 0 zc.out (ya:Int) p21 q21
  have HP26:=Kd.R_putn zc.out (ya:Int) (rd yc (rd zd ya))
  rw [← Ny422.out] at HP26
  have HQ26:=aM HP26
  clear HP26
  refine sT 14 [13] (fun w'=>w'.cell? ⟨zb,0,none⟩=some (.int .i64 ya)∧w'.cell? ⟨zb,1,none⟩=some (.int .i64 ye)∧w'.cell? ⟨zb,2,none⟩=some (.int .i64 yf)∧w'.cell? ⟨zb,3,none⟩=some (.int .i64 yg)∧w'.cell? ⟨zb,4,none⟩=some (.int .i64 yh)∧w'.cell? ⟨zb,5,none⟩=some (.int .i64 yi)∧w'.cell? ⟨zb,6,none⟩=some (.int .i64 yj)∧w'.cell? ⟨zb,7,none⟩=some (.int .i64 yk)∧w'.cell? ⟨zb,8,none⟩=some (.bool yl)∧w'.cell? ⟨zb,9,none⟩=some (.slice (some ya1) yc.length yu)∧w'.cell? ⟨yap,(ya).toNat,none⟩=some (.int .i64 (rd zd ya))∧w'.cell? (ya1.add ((rd zd ya)).toNat)=some (.int .i64 (rd yc (rd zd ya)))) fbg.tab9 fbg.bits9 (c10 za ⟨yx,(zW HB y2)⟩) (fun hHeld HT_ HW_=>?_)
  generalize wc.drew=w24 at zf zc za HB GG21 HQ26 hf21_0 ya2 yx yao hHeld ⊢
  refine pQ 0 54 14 1 HT_ ?_
  refine pQ 1 55 14 3 HT_ ?_
  refine pQ 3 57 14 11 HT_ ?_
  refine pQ 5 59 14 43 HT_ ?_
  refine pQ 6 60 14 107 HT_ ?_
  refine pU12 2 56 14 111 HT_ HW_ hHeld ?_
  refine pU12 4 58 14 127 HT_ HW_ hHeld ?_
  refine pU12 7 61 14 255 HT_ HW_ hHeld ?_
  refine pQ 8 62 14 511 HT_ ?_
  refine pU12 9 63 14 1023 HT_ HW_ hHeld ?_
  refine pQ 10 64 14 2047 HT_ ?_
  refine pU12 11 65 14 4095 HT_ HW_ hHeld ?_
  refine pQ 12 66 14 8191 HT_ ?_
  refine last_ (i:=13) (N:=none) (bm 14 16383) rfl rfl (one_of HT_.out (by kernel_rfl)) (by decide) (fun K hK=>?_)
  refine skip_ (w1:=?_) (by rfl) rfl ?_ ?_
  rotate_left
  ·go_simp
   rfl
  refine hK.out _ _ ?_
  clear hK K
  refine dN HT_ ?_
  have ybn:0≤(0:Int):=(by omega)
  have ybo:0 < (l2.length:Int):=oD
  obtain⟨ybe,ya3,ya4,ybp,ym,y3,y4⟩:=at_L1 HR2.out 0 ybn ybo
  cases ybp
  have qi423:(0 < l2.length)=True:=eq_true (by omega)
  (try rw [show ((0:Int)).toNat=0 from rfl] at ym)
  (try rw [Addr.add_zero'] at ym)
  have hn423_0:ybe.block≠yap:=Nat.ne_of_lt (Nat.lt_of_lt_of_le (by have:=World.block_lt_of_cell? _ _ ym;first|rwa [add_block] at this|exact this) GB21.out)
  replace ym:=zW HB ym
  have yaq:=aM y4
  have yar:=aM y3
  clear y4 y3
  replace ym:=(cell_far (p:=⟨yap,(ya:Int).toNat,none⟩) (by first|(rw [add_block];exact hn423_0)|(show (Addr.add _ _).block≠_;rw [add_block];exact hn423_0)|exact hn423_0) (.int .i64 (rd yc (rd zd ya)))).trans ym
  clear hn423_0
  try go_wp2_with (first|((with_reducible refine gC 41 rfl ?_);refine goesL_ (some 97) rfl rfl Try.func41 (by kernel_rfl) rfl #[.slice ya3 (rd_L1 l2 0).length ya4,.slice (some ⟨yap,0,none⟩) zt.length z3] rfl (by(try simp only [List.map_toArray,List.map_cons,List.map_nil]);first|done|(rw [show zt.length=zd.length from (Kd.R_reads' HQ26.out).1.symm] <;> rfl)|rfl|(simp only [List.length_drop,List.length_take];rfl)) ?_;(with_reducible refine(fco.calls kj6 _ _ (rd_L1 l2 0) _ _ zt t424 t425 _ ?s1 yar.out ?s3 ?s4 A23.out).mono ?_);(case s1=>exact Kd.C_below yaq.out (qB2 HB GB21 zg));(case s3=>refine(Kd.R_reads' (e:=3) (base:=w.heap.size) (ok:=fun k_=>some k_≠(.slice zo zj.length zp:Value).ownBlock) (n:=zd.length) (c:=z3) ?_).2.2;exact(pR HQ26.out));(case s4=>rw [show zt.length=zd.length from (Kd.R_reads' HQ26.out).1.symm];exact sL zc);rintro e w' ⟨rfl,⟨nd,rfl⟩⟩;refine⟨_,rfl,?_⟩))
  go_ret3
  exact⟨pE,qB2 HB GB21 zg⟩
 rw [iN c16] at H
 have ybc:=bF c16
 have ybd:=nT c16
 by_cases c27:a0=40
 rotate_left
 ·rw [iN c27] at H
  have ybf:=bF c27
  have ybg:=nT c27
  by_cases c45:0 < (l2.length:Int)
  rotate_left
  ·rw [iN c45] at H
   cases H
  rw [ip c45] at H
  have c45b0:=dT c45
  have c45b1:decide (0 < l2.length)=true:=decide_eq_true (by omega)
  clear c45
  replace H:=oB H
  obtain⟨⟨t438,t439⟩,z7,H⟩:=H
  try dsimp only at H
  have A46:=aM z7
  clear z7
  replace H:=oi3 H
  obtain⟨rfl,rfl,rfl⟩:=H
  try go_wp2
  replace zf:=aM (Kd.R_drew zf.out)
  replace zc:=aM (Kd.R_drew zc.out)
  replace za:=aM (blk_drew za.out)
  replace HB:=aM (below_drew1 HB.out)
  have ybq:0≤(0:Int):=(by omega)
  have ybr:0 < (l2.length:Int):=oD
  obtain⟨ybh,yad,yae,ybs,yn,y5,y6⟩:=at_L1 HR2.out 0 ybq ybr
  have yo:=yn
  (try rw [show ((0:Int)).toNat=0 from rfl] at yo)
  (try rw [show 0 * 1=0 from rfl] at yo)
  (try rw [Addr.add_zero'] at yo)
  cases ybs
  have qi437:(0 < l2.length)=True:=eq_true (by omega)
  (try rw [show ((0:Int)).toNat=0 from rfl] at yn)
  (try rw [Addr.add_zero'] at yn)
  replace yn:=zW HB yn
  have zm:=aM y6
  have yas:=aM y5
  clear y6 y5
  obtain⟨zw,zx,z8⟩:=Kd.R_slice zc.out
  (first|subst z8|(injection z8 with f1_ f2_ f3_;have f4_:=f1_.symm;have f5_:=f3_.symm;clear f1_ f2_ f3_;subst f4_;subst f5_))
  refine sT 12 [] (fun w'=>w'.cell? ⟨zb,0,none⟩=some (.int .i64 ya)∧w'.cell? ⟨zb,1,none⟩=some (.int .i64 ye)∧w'.cell? ⟨zb,2,none⟩=some (.int .i64 yf)∧w'.cell? ⟨zb,3,none⟩=some (.int .i64 yg)∧w'.cell? ⟨zb,4,none⟩=some (.int .i64 yh)∧w'.cell? ⟨zb,5,none⟩=some (.int .i64 yi)∧w'.cell? ⟨zb,6,none⟩=some (.int .i64 yj)∧w'.cell? ⟨zb,7,none⟩=some (.int .i64 yk)∧w'.cell? ⟨zb,8,none⟩=some (.bool yl)∧w'.cell? ⟨zb,9,none⟩=some (.slice yw yc.length yu)∧w'.cell? ybh=some (.slice yad (rd_L1 l2 0).length yae)) fbg.tab7 fbg.bits7 (c10 za (zW HB yo)) (fun hHeld HT_ HW_=>?_)
  generalize wc.drew=w47 at zf zc za HB zm yn hHeld ⊢
  refine pQ 0 43 12 1 HT_ ?_
  refine pQ 2 45 12 5 HT_ ?_
  refine pQ 3 46 12 13 HT_ ?_
  refine pQ 5 48 12 45 HT_ ?_
  refine pQ 6 49 12 109 HT_ ?_
  refine pQ 7 50 12 237 HT_ ?_
  refine pU11 1 44 12 239 HT_ HW_ hHeld ?_
  refine pU11 4 47 12 255 HT_ HW_ hHeld ?_
  refine oN 8 51 12 511 HT_ (fun K hK=>?_)
  refine gS Try.func40 #[.int .i64 a0,.agg (aT ya ye yf yg yh yi yj yk yl yw yc.length yu),.slice yad (rd_L1 l2 0).length yae,.slice zo zj.length zp,.slice zw zd.length zx,.int .i64 a3] ?_
  with_reducible refine(fbn.calls kj6 a0 ya ye yf yg yh yi yj yk yl _ _ yc _ _ (rd_L1 l2 0) _ _ zj (fun k_=>some k_=(.slice zw zd.length zx:Value).ownBlock) (.slice zw zd.length zx) zd a3 t438 t439 w _ ?s1 ?s2 zz.out ?s4 yas.out ?s6 ?s7 ?s8 A46.out).mono ?_
  (case s1=>repeat(first|(with_reducible first|exact HB.out|apply below_alloc|apply pw_below_drewN|apply below_drew1|refine below_set ?_ zg.out)|exact HB.out))
  (case s2=>exact Kd.C_kept_came (Kd.heap_int .i64) zr.out (qB1 HB zg) (fun k_ hs_=>(fun e_=>Kd.R_base zc.out k_ e_.symm) hs_))
  (case s4=>exact Kd.C_kept_came (Kd.heap_int .i64) zm.out (qB1 HB zg) (fun k_ hs_=>(fun e_=>Kd.R_base zc.out k_ e_.symm) hs_))
  (case s6=>exact Kd.C_kept_own (zf.out) (fun k_ hk_ hs_=>(hk_) hs_))
  (case s7=>exact sL zf)
  (case s8=>exact Kd.R_tight rfl zc.out)
  rintro e w49 ⟨rfl,hy0,hb,hkp⟩
  refine⟨_,rfl,?_⟩
  replace zf:=aM (Kd.R_mono (ok':=fun k_=>some k_≠(.slice zw zd.length zx:Value).ownBlock) (Kd.R_keptB (zf.out) hkp (fun k_ hk_ hs_=>(hk_) hs_)) (fun k_ hk_=>hk_.1))
  replace za:=aM (blk_kept (pK za.out) hkp (fun hs_=>(fun e_=>(Kd.R_ne zc.out za.out (by decide)) e_) hs_))
  replace zc:=aM (Kd.R_reok rfl hy0 (fun k_ e_=>zc.out.1 k_ e_))
  replace HB:=aM (hb)
  (try clear hb)
  (try clear hkp)
  (try clear hy0)
  refine hK.out _ _ (c10 za (zW HB yo)) (fun hHeld=>?_)
  clear hK K
  refine norm_ (a':=?_) ?_ ?_
  rotate_left
  ·show Act.put _ (some 51) _=_
   simp only [Act.put,sP,i64_w,i32_w]
   rfl
  refine pQ 9 8 12 1023 HT_ ?_
  refine pQ 10 9 12 2047 HT_ ?_
  refine pQ 11 10 12 4095 HT_ ?_
  refine dN HT_ ?_
  try go_wp2
  go_ret3
  exact⟨pE,qB1 HB zg⟩
 rw [ip c27] at H
 have ybf:=bT c27
 have ybg:=nF c27
 clear c27
 by_cases c28:0 < (l2.length:Int)
 rotate_left
 ·rw [iN c28] at H
  cases H
 rw [ip c28] at H
 have c28b0:=dT c28
 have c28b1:decide (0 < l2.length)=true:=decide_eq_true (by omega)
 clear c28
 by_cases c29:0≤ya
 rotate_left
 ·rw [iN c29] at H
  cases H
 rw [ip c29] at H
 have c29b0:=dT c29
 clear c29
 by_cases c30:ya < ((rd_L1 l2 0).length:Int)
 rotate_left
 ·rw [iN c30] at H
  cases H
 rw [ip c30] at H
 have c30b0:=dT c30
 clear c30
 by_cases c31:ya < (zd.length:Int)
 rotate_left
 ·rw [iN c31] at H
  cases H
 rw [ip c31] at H
 have c31b0:=dT c31
 clear c31
 by_cases c32:(rd zd ya) ≥ (rd (rd_L1 l2 0) ya)
 rotate_left
 ·rw [iN c32] at H
  have ybi:decide ((rd (rd_L1 l2 0) ya)≤(rd zd ya))=false:=decide_eq_false c32
  clear c32
  replace H:=oB H
  obtain⟨⟨t435,t436⟩,z9,H⟩:=H
  try dsimp only at H
  have A41:=aM z9
  clear z9
  replace H:=oi3 H
  obtain⟨rfl,rfl,rfl⟩:=H
  try go_wp2
  replace zf:=aM (Kd.R_drew zf.out)
  replace zc:=aM (Kd.R_drew zc.out)
  replace za:=aM (blk_drew za.out)
  replace HB:=aM (below_drew1 HB.out)
  have ya5:0≤(0:Int):=(by omega)
  have ya6:0 < (l2.length:Int):=oD
  obtain⟨y0,ya7,yy,ya8,yb,yp,yq⟩:=at_L1 HR2.out 0 ya5 ya6
  have yd:=yb
  (try rw [show ((0:Int)).toNat=0 from rfl] at yd)
  (try rw [show 0 * 1=0 from rfl] at yd)
  (try rw [Addr.add_zero'] at yd)
  cases ya8
  have qi426:(0 < l2.length)=True:=eq_true (by omega)
  (try rw [show ((0:Int)).toNat=0 from rfl] at yb)
  (try rw [Addr.add_zero'] at yb)
  replace yb:=zW HB yb
  have zi:=aM yq
  have yat:=aM yp
  clear yq yp
  obtain⟨yv,⟨⟩,yr,ybt,ybu⟩:=zI zi.out ya
  have yz:=zW HB yr
  refine sT 8 [] (fun w'=>w'.cell? ⟨zb,0,none⟩=some (.int .i64 ya)∧w'.cell? ⟨zb,1,none⟩=some (.int .i64 ye)∧w'.cell? ⟨zb,2,none⟩=some (.int .i64 yf)∧w'.cell? ⟨zb,3,none⟩=some (.int .i64 yg)∧w'.cell? ⟨zb,4,none⟩=some (.int .i64 yh)∧w'.cell? ⟨zb,5,none⟩=some (.int .i64 yi)∧w'.cell? ⟨zb,6,none⟩=some (.int .i64 yj)∧w'.cell? ⟨zb,7,none⟩=some (.int .i64 yk)∧w'.cell? ⟨zb,8,none⟩=some (.bool yl)∧w'.cell? ⟨zb,9,none⟩=some (.slice yw yc.length yu)∧w'.cell? y0=some (.slice (some yv) (rd_L1 l2 0).length yy)∧w'.cell? (yv.add (ya).toNat)=some (.int .i64 (rd (rd_L1 l2 0) ya))) fbg.tab11 fbg.bits11 (c10 za ⟨(zW HB yd),(zW HB yr)⟩) (fun hHeld HT_ HW_=>?_)
  generalize wc.drew=w42 at zf zc za HB zi yb yz hHeld ⊢
  refine pQ 0 69 8 1 HT_ ?_
  refine pQ 1 70 8 3 HT_ ?_
  refine pQ 3 72 8 11 HT_ ?_
  refine pU12 2 71 8 15 HT_ HW_ hHeld ?_
  refine pU12 4 73 8 31 HT_ HW_ hHeld ?_
  refine pQ 5 74 8 63 HT_ ?_
  refine pU12 6 75 8 127 HT_ HW_ hHeld ?_
  refine pQ 7 16 8 255 HT_ ?_
  refine dN HT_ ?_
  have hcz43:=blk10 za.out
  obtain⟨Ao44,ybv,ybw⟩:=Kd.R_slice zc.out
  subst ybw
  obtain⟨yaf,⟨⟩,y7,ybx,yby⟩:=zI (Kd.R_reads' zc.out).2.2 ya
  have ybz:0≤(0:Int):=(by omega)
  have yb0:0 < (l2.length:Int):=oD
  obtain⟨ybj,A434_0,c434_0,yb1,ys,y8,y9⟩:=at_L1 HR2.out 0 ybz yb0
  obtain rfl:y0=ybj:=(by injection yb1)
  have qi434:(0 < l2.length)=True:=eq_true (by omega)
  (try rw [show ((0:Int)).toNat=0 from rfl] at ys)
  (try rw [Addr.add_zero'] at ys)
  replace ys:=zW HB ys
  have yau:=aM y9
  have yav:=aM y8
  clear y9 y8
  have ea_:=Option.some.inj (yb.symm.trans ys)
  injection ea_ with ea_ en_ ec_
  subst ea_
  subst ec_
  clear en_
  try go_wp2_with (first|((with_reducible refine gC 41 rfl ?_);refine gL 97 Try.func41 #[.slice (some yv) (rd_L1 l2 0).length yy,.slice (some yaf) zd.length ybv] ?_;(with_reducible refine(fco.calls kj6 _ _ (rd_L1 l2 0) _ _ zd t435 t436 _ ?s1 yav.out ?s3 ?s4 A41.out).mono ?_);(case s1=>exact sC yau HB);(case s3=>exact sR zc);(case s4=>exact sL zc);rintro e w' ⟨rfl,⟨nd,rfl⟩⟩;refine⟨_,rfl,?_⟩))
  go_ret3
  exact⟨pE,qB1 HB zg⟩
 rw [ip c32] at H
 have ybi:decide ((rd (rd_L1 l2 0) ya)≤(rd zd ya))=true:=decide_eq_true c32
 clear c32
 obtain⟨zq,zv⟩:∃ y_:List Int,y_=(zd.set (ya:Int).toNat (wrap64 ((rd zd ya) - (rd (rd_L1 l2 0) ya)))):=⟨_,rfl⟩
 replace H:(if 1 < (l2.length:Int)then((fco.f kj6 (rd_L1 l2 1) zq).bind fun bt432=>(some (1,bt432.1,true)))else(none))=some (r1,r2,r3):=pH zv H
 have Ny430:=aM zv
 clear zv
 by_cases c34:1 < (l2.length:Int)
 rotate_left
 ·rw [iN c34] at H
  cases H
 rw [ip c34] at H
 have c34b0:=dT c34
 have c34b1:decide (1 < l2.length)=true:=decide_eq_true (by omega)
 clear c34
 replace H:=oB H
 obtain⟨⟨t432,t433⟩,zaa,H⟩:=H
 try dsimp only at H
 have A35:=aM zaa
 clear zaa
 replace H:=oi3 H
 obtain⟨rfl,rfl,rfl⟩:=H
 try go_wp2
 replace zf:=aM (Kd.R_drew zf.out)
 replace zc:=aM (Kd.R_drew zc.out)
 replace za:=aM (blk_drew za.out)
 replace HB:=aM (below_drew1 HB.out)
 have ya5:0≤(0:Int):=(by omega)
 have ya6:0 < (l2.length:Int):=oD
 obtain⟨y0,ya7,yy,ya8,yb,yp,yq⟩:=at_L1 HR2.out 0 ya5 ya6
 have yd:=yb
 (try rw [show ((0:Int)).toNat=0 from rfl] at yd)
 (try rw [show 0 * 1=0 from rfl] at yd)
 (try rw [Addr.add_zero'] at yd)
 cases ya8
 have qi426:(0 < l2.length)=True:=eq_true (by omega)
 (try rw [show ((0:Int)).toNat=0 from rfl] at yb)
 (try rw [Addr.add_zero'] at yb)
 replace yb:=zW HB yb
 have zi:=aM yq
 have yat:=aM yp
 clear yq yp
 obtain⟨yv,⟨⟩,yr,ybt,ybu⟩:=zI zi.out ya
 have yz:=zW HB yr
 refine sT 8 [] (fun w'=>w'.cell? ⟨zb,0,none⟩=some (.int .i64 ya)∧w'.cell? ⟨zb,1,none⟩=some (.int .i64 ye)∧w'.cell? ⟨zb,2,none⟩=some (.int .i64 yf)∧w'.cell? ⟨zb,3,none⟩=some (.int .i64 yg)∧w'.cell? ⟨zb,4,none⟩=some (.int .i64 yh)∧w'.cell? ⟨zb,5,none⟩=some (.int .i64 yi)∧w'.cell? ⟨zb,6,none⟩=some (.int .i64 yj)∧w'.cell? ⟨zb,7,none⟩=some (.int .i64 yk)∧w'.cell? ⟨zb,8,none⟩=some (.bool yl)∧w'.cell? ⟨zb,9,none⟩=some (.slice yw yc.length yu)∧w'.cell? y0=some (.slice (some yv) (rd_L1 l2 0).length yy)∧w'.cell? (yv.add (ya).toNat)=some (.int .i64 (rd (rd_L1 l2 0) ya))) fbg.tab11 fbg.bits11 (c10 za ⟨(zW HB yd),(zW HB yr)⟩) (fun hHeld HT_ HW_=>?_)
 generalize wc.drew=w36 at zf zc za HB zi yb yz hHeld ⊢
 refine pQ 0 69 8 1 HT_ ?_
 refine pQ 1 70 8 3 HT_ ?_
 refine pQ 3 72 8 11 HT_ ?_
 refine pU12 2 71 8 15 HT_ HW_ hHeld ?_
 refine pU12 4 73 8 31 HT_ HW_ hHeld ?_
 refine pQ 5 74 8 63 HT_ ?_
 refine pU12 6 75 8 127 HT_ HW_ hHeld ?_
 refine pQ 7 16 8 255 HT_ ?_
 refine dN HT_ ?_
 have hcz37:=blk10 za.out
 obtain⟨Ao38,zy,yb2⟩:=Kd.R_slice zc.out
 subst yb2
 obtain⟨yaf,⟨⟩,y7,ybx,yby⟩:=zI (Kd.R_reads' zc.out).2.2 ya
 obtain⟨ybk,yb3,yaw,p429,q429⟩:=zI (Kd.R_reads' zc.out).2.2 ya
 obtain rfl:yaf=ybk:=(by injection yb3)
 have p33:0≤(ya:Int):=oD
 have q33:(ya:Int) < ((zd.length:Int):Int):=oD
 obtain⟨yac,co33,zab,zac,gl33,cl33,HG33⟩:=Kd.R_form zc.out (by omega)
 (first|cases zab|(injection zab with ea_ en_ ec_;(first|subst ea_|(injection ea_ with ea_;subst ea_));subst ec_;clear en_))
 have GB33:=aM zac
 have GG33:=aM HG33
 clear zac gl33 HG33
 (first|simp only [add_plain] at y7|skip)
 (first|simp only [add_plain] at yaw|skip)
 obtain⟨hx33_0,hf33_0⟩:=Kd.R_celln 0 zc.out (ya:Int) p33 q33
 obtain⟨hy39_,hz39_⟩:=Kd.R_celln 0 zc.out (ya:Int) (of_decide_eq_true pD) (of_decide_eq_true pD)
 have HP39:=Kd.R_putg zc.out (ya:Int) (wrap64 ((rd zd ya) - (rd (rd_L1 l2 0) ya)))
 try go_wp2_with (first|((with_reducible refine gate_store (t:=3) (p:=90) rfl ?_);refine store_event (t:=3) (p:=90) (v:=?vo_w40) (w1:=(w36.setCell ⟨yac,(ya:Int).toNat,none⟩ (.int .i64 (wrap64 ((rd zd ya) - (rd (rd_L1 l2 0) ya)))))) ?hg ?ho ?hn ?hr ?_;(case ho=>rfl);(case hg=>rfl);(case hn=>rfl);(case hr=>first|(go_simp;done)|(go_simp;rfl));intro w40 hw;have hg:w36.grownBy w40 (some yac):=(by rw [hw];exact HP39.2);have hp_:Kd.R (Kd.int .i64) 3 w40 w.heap.size (fun k_=>some k_≠(.slice zo zj.length zp:Value).ownBlock) (.slice (some ⟨yac,0,none⟩) zd.length zy) zq:=(by rw [hw,Ny430.out];exact HP39.1);clear HP39;replace zf:=aM (Kd.R_after (v:=(.slice (some ⟨yac,0,none⟩) zd.length zy)) (v1:=(.slice (some ⟨yac,0,none⟩) zd.length zy)) (ok:=(fun _=>True)) (by(with_reducible repeat(first|apply rA|apply rN|apply rD));exact Kd.R_mono zf.out (fun _ hk=>⟨trivial,hk⟩)) hg (.inl rfl));replace za:=aM (blk_grown (g:=zb) (pK za.out) hg (Kd.R_ne zc.out za.out (by decide)));replace zc:=aM (hp_);replace HB:=aM ((by rw [hw];exact below_set (HB.out) GB33.out:Below w.heap.size w w40));clear hg hw hp_;have yb4:0≤(1:Int):=(by omega);have yb5:1 < (l2.length:Int):=oD;obtain⟨ybl,ya9,yba,yb6,yt,yaa,yab⟩:=at_L1 HR2.out 1 yb4 yb5;obtain rfl:y0=ybl:=(by injection yb6);(try simp only [show (1:Int).toNat=1 from rfl,Nat.reduceMul,Nat.reduceEqDiff,Go.Addr.add,↓reduceIte] at yt);have qi431:(1 < l2.length)=True:=eq_true (by omega);(try rw [show ((1:Int)).toNat=1 from rfl] at yt);replace yt:=zW HB yt;have yax:=aM yab;have yay:=aM yaa;clear yab yaa)|((with_reducible refine gC 41 rfl ?_);refine goesL_ (some 97) rfl rfl Try.func41 (by kernel_rfl) rfl #[.slice ya9 (rd_L1 l2 1).length yba,.slice (some ⟨yac,0,none⟩) zq.length zy] rfl (by(try simp only [List.map_toArray,List.map_cons,List.map_nil]);first|done|(rw [show zq.length=zd.length from (Kd.R_reads' zc.out).1.symm] <;> rfl)|rfl|(simp only [List.length_drop,List.length_take];rfl)) ?_;(with_reducible refine(fco.calls kj6 _ _ (rd_L1 l2 1) _ _ zq t432 t433 _ ?s1 yay.out ?s3 ?s4 A35.out).mono ?_);(case s1=>exact sC yax HB);(case s3=>exact sR zc);(case s4=>rw [show zq.length=zd.length from (Kd.R_reads' zc.out).1.symm];exact sL zc);rintro e w' ⟨rfl,⟨nd,rfl⟩⟩;refine⟨_,rfl,?_⟩))
 go_ret3
 exact⟨pE,qB1 HB zg⟩
def fbi.f (a0:Int):Option (Bool):=if a0 ≥ 33 then(some (decide (a0≤37)))else(some false)
theorem fbi.calls (a0:Int)(r:Bool)(w:World)(h:fbi.f a0=some r) :
  Calls Try.prog 14 #[.int .i64 a0] w fun e w'=>e=.returned (.bool r)∧Drawn0 w w':=by
 have H:(if a0 ≥ 33 then(some (decide (a0≤37)))else(some false))=some r:=h
 clear h
 by_cases c2:a0 ≥ 33
 ·rw [ip c2] at H
  have ya:decide (33≤a0)=true:=decide_eq_true c2
  clear c2
  obtain rfl:=Option.some.inj H
  go_enter Try.func14,Try.ntmps14
  go_wp2
  go_ret
  exact⟨pF,by repeat(first|exact Drawn0.refl _|apply Drawn0.step)⟩
 rw [iN c2] at H
 have ya:decide (33≤a0)=false:=decide_eq_false c2
 clear c2
 obtain rfl:=Option.some.inj H
 go_enter Try.func14,Try.ntmps14
 go_wp2
 go_ret
 exact⟨pF,by repeat(first|exact Drawn0.refl _|apply Drawn0.step)⟩
def fbj.j0:Nat→List Int→List Int→Bool→Int→Int→Int→Int→Int→Int→Int→Int→Bool→List Int→Option (Int×Bool)
 | 0,_,_,_,_,_,_,_,_,_,_,_,_,_=>none
 | k + 1,x8,x10,x31,ze,x441001,x441002,x441003,x441004,x441005,x441006,x441007,x441008,zn=>if x31=true then(some (0,false))else((fbw.f x10).bind fun zg=>(if 0≤ze then(if ze < (x10.length:Int)then(if 0≤(rd x10 ze)then(if(rd x10 ze) < (zn.length:Int)then(if ze < (zg.length:Int)then((fco.f k x8 (zg.set (ze:Int).toNat (rd zn (rd x10 ze)))).bind fun bt458=>(some (bt458.1,bt458.2)))else(none))else(none))else(none))else(none))else(none)))
def fbj.f (k:Nat) (ya:Int) (yc:Int) (yd:Int) (ye:Int) (yf:Int) (yg:Int) (yh:Int) (yi:Int) (yj:Bool) (yb:List Int) (l1:List Int) (a2:Int):Option (Int×Bool):=(fbf.f k 39 ya yc yd ye yf yg yh yi yj yb (([l1]:List (List Int)))).bind fun bt444=>((fcn.f k l1 a2).bind fun bt448=>(if bt444.2=0 then(fbj.j0 k bt444.1 bt448.1 (!bt448.2) ya yc yd ye yf yg yh yi yj yb)else(fbj.j0 k bt444.1 bt448.1 true ya yc yd ye yf yg yh yi yj yb)))
def fbj.T6:TT:=(true,[([],[]),([],[]),([1],[1]),([],[]),([3],[3]),([],[]),([],[]),([6],[6]),([5,7],[5,7]),([8],[8]),([4,9],[4,9]),([10],[10]),([0,2,0,1,2,3,4,5,6,7,8,9,10,11],[0,2]),([12,11,0,1,2,3,4,5,6,7,8,9,10,11],[11,12])])
def fbj.B6:List Nat:=[0,0,2,0,8,0,0,64,224,480,1016,2040,4095,8191]
theorem fbj.tab6:rtab .any (opsOf Try.f16 6)=fbj.T6:=by kernel_rfl
theorem fbj.bits6:waitsOk fbj.T6.2 fbj.B6=true:=by kernel_rfl
theorem fbj.calls (k:Nat) (ya:Int) (yc:Int) (yd:Int) (ye:Int) (yf:Int) (yg:Int) (yh:Int) (yi:Int)(yj:Bool)(yo:Option Addr)(yn:Nat)(yb:List Int)(P1_:Nat→Prop)(A1:Option Addr)(c1:Nat)(l1:List Int) (a2:Int) (r1:Int)(r2:Bool)(w:World)(ys:Kd.C (Kd.int .i64) w yo yb.length yb)(yt:yb.length≤yn)(y4:Kd.V (Kd.int .i64) 3 w w.heap.size (fun k_=>P1_ k_) (.slice A1 l1.length c1) l1)(h:fbj.f k ya yc yd ye yf yg yh yi yj yb l1 a2=some (r1,r2)) :
  Calls Try.prog 16 #[.agg #[.int .i64 ya,.int .i64 yc,.int .i64 yd,.int .i64 ye,.int .i64 yf,.int .i64 yg,.int .i64 yh,.int .i64 yi,.bool yj,.slice yo yb.length yn],.slice A1 l1.length c1,.int .i64 a2] w fun e w'=>e=.returned (.tuple #[.int .i64 r1,.bool r2])∧Below w.heap.size w w':=by
 have hu24:=Try.underlying24
 have zs:=aM ys
 have yw:=aM yt
 clear ys yt
 have HO1:=aM (show Kd.V (Kd.int .i64) 3 w w.heap.size (fun k_=>(P1_ k_∨w.heap.size≤k_)) (.slice A1 l1.length c1) l1 from Kd.V_mono y4 (fun k_ hk=>.inl hk))
 have HB:=aM (Below.refl w.heap.size w)
 have H:((fbf.f k 39 ya yc yd ye yf yg yh yi yj yb (([l1]:List (List Int)))).bind fun bt444=>((fcn.f k l1 a2).bind fun bt448=>(if bt444.2=0 then(fbj.j0 k bt444.1 bt448.1 (!bt448.2) ya yc yd ye yf yg yh yi yj yb)else(fbj.j0 k bt444.1 bt448.1 true ya yc yd ye yf yg yh yi yj yb))))=some (r1,r2):=h
 clear h
 obtain⟨zv,zp⟩:∃ y_:List (List Int),y_=(([l1]:List (List Int))):=⟨_,rfl⟩
 replace H:((fbf.f k 39 ya yc yd ye yf yg yh yi yj yb zv).bind fun bt444=>((fcn.f k l1 a2).bind fun bt448=>(if bt444.2=0 then(fbj.j0 k bt444.1 bt448.1 (!bt448.2) ya yc yd ye yf yg yh yi yj yb)else(fbj.j0 k bt444.1 bt448.1 true ya yc yd ye yf yg yh yi yj yb))))=some (r1,r2):=pH zp H
 have zt:=aM zp
 clear zp
 replace H:=oB H
 obtain⟨⟨zk,zo⟩,A40,H⟩:=H
 try dsimp only at H
 have A4:=aM A40
 clear A40
 replace H:=oB H
 obtain⟨⟨zd,zz⟩,A50,H⟩:=H
 try dsimp only at H
 have A5:=aM A50
 clear A50
 have HC6:=aM H
 clear H
 go_enter Try.func16,Try.ntmps16
 go_upto_region 3 with(first|((with_reducible refine gD 3 rfl ?_);refine bX 3 24 (aT ya yc yd ye yf yg yh yi yj yo yb.length yn) ?_;intro zb hg w7 hbox hb;replace HO1:=aM (Kd.V_below (Kd.V_elderB (pV HO1.out) zb (Nat.le_of_eq hg.symm)) hb);have za:=aM (hbox);have GW440:=gE (w:=w) hg (qB HB);have zc:=GW440;replace HB:=bS (qB HB) hb;clear hb hbox hg;have hcz8:=blk10 za.out)|((with_reducible refine gD 16 rfl ?_);refine Kd.N_lit (Kd.slice 3 (Kd.int .i64)) _ 22 ?hg (N':=16) ?hd (xs:=([l1]:List (List Int))) (inner:=[.slice A1 l1.length c1]) (ok:=(fun k_=>(P1_ k_∨w.heap.size≤k_)∧k_≠zb)) (okp:=(fun k_=>(P1_ k_∨w.heap.size≤k_)∧k_≠zb)) ?hr ?hp (fun _ hk=>hk) ((show ∀ k_,w7.heap.size≤k_→(fun k_=>(P1_ k_∨w.heap.size≤k_)∧k_≠zb) k_ from fun k_ hk=>⟨(.inr (Nat.le_trans (below_size (qB1 HB zc)) hk)),Kd.freshB (g:=zb) (pK za.out) k_ hk⟩) _ (Nat.le_refl _)) (Below.refl _ _) (Nat.le_refl _) (by simp) ?_;(case hd=>rfl);(case hg=>rfl);(case hr=>first|(go_simp;done)|(go_simp;rfl));(case hp=>exact(Reps.one (show Kd.FK (Kd.slice 3 (Kd.int .i64)) _ _ l1 [.slice A1 l1.length c1] from (Kd.FK_slice_mk (Kd.V_reads' (Kd.V_mono (ok':=(fun k_=>(P1_ k_∨w.heap.size≤k_)∧k_≠zb)) (HO1.out) (fun k_ hk=>⟨hk.1,hk.2⟩))).2.1 (Kd.V_F (Kd.V_mono (ok':=(fun k_=>(P1_ k_∨w.heap.size≤k_)∧k_≠zb)) (HO1.out) (fun k_ hk=>⟨hk.1,hk.2⟩))))) (Reps.none _ _)));intro v442 w9 ho10 hb hg_ hnew_;clear hg_ hnew_;(first|rw [← zt.out] at ho10|(simp only [Int.reduceToNat] at ho10;rw [← zt.out] at ho10));replace HO1:=aM (Kd.V_elder' (pV HO1.out) (Kd.N_base ho10) hb);have zh:=aM (Kd.N_lower ho10 (below_size (qB1 HB zc)));replace za:=bK za hb;replace HB:=bS (qB1 HB zc) hb;clear hb ho10;obtain⟨yy,yz,y0⟩:=Kd.N_slice zh.out;subst y0)|((with_reducible refine gC 10 rfl ?_);refine gL 17 Try.func10 #[.int .i64 39,.agg (aT ya yc yd ye yf yg yh yi yj yo yb.length yn),.slice yy zv.length yz] ?_;(with_reducible refine(fbf.calls k 39 ya yc yd ye yf yg yh yi yj _ _ yb _ _ zv zk zo _ ?s1 yw.out ?s3 ?s4 A4.out).mono ?_);(case s1=>exact sC zs HB);(case s3=>exact pC (Kd.N_reads' zh.out).2.2);(case s4=>exact(Kd.N_reads' zh.out).2.1);rintro e w12 ⟨z0,rfl,ho0,hb⟩;refine⟨_,rfl,?_⟩;replace HO1:=aM (Kd.V_elder' (pV HO1.out) (Kd.R_base ho0) hb);replace zh:=aM (Kd.N_elder' (by(with_reducible repeat(first|apply Kd.N_alloc|apply Kd.N_drewN|apply Kd.N_drew));exact zh.out) (Kd.R_base ho0) hb);have zl:=aM (Kd.R_lower (Kd.R_newM (M:=fun k_=>(w.heap.size≤k_)) ho0 (below_size (qB1 HB zc)) (fun k_ h_=>h_)) (below_size (qB1 HB zc)));replace za:=bK za hb;replace HB:=bS (qB1 HB zc) hb;(try clear hb);(try clear hk);(try clear hi);(try clear ho0))|((with_reducible refine gC 39 rfl ?_);refine gL 23 Try.func39 #[.slice A1 l1.length c1,.int .i64 a2] ?_;(with_reducible refine(fcn.calls k _ _ l1 a2 zd zz _ ?s1 ?s2 A5.out).mono ?_);(case s1=>exact pC (Kd.V_reads' HO1.out).2.2);(case s2=>exact(Kd.V_reads' HO1.out).2.1);rintro e w13 ⟨z1,rfl,ho0,hb⟩;refine⟨_,rfl,?_⟩;replace HO1:=aM (Kd.V_elder' (pV HO1.out) (Kd.R_base ho0) hb);replace zh:=aM (Kd.N_elder' (by(with_reducible repeat(first|apply Kd.N_alloc|apply Kd.N_drewN|apply Kd.N_drew));exact zh.out) (Kd.R_base ho0) hb);have zu:=aM (Kd.R_lower (Kd.R_new' (Kd.R_newM (M:=fun k_=>(w.heap.size≤k_)) ho0 (below_size (qB1 HB zc)) (fun k_ h_=>h_)) (Kd.R_lt (pR zl.out))) (below_size (qB1 HB zc)));replace zl:=eR zl ho0 hb;replace za:=bK za hb;replace HB:=bS (qB1 HB zc) hb;(try clear hb);(try clear hk);(try clear hi);(try clear ho0)))
 (try simp only [Act.put,sP])
 go_cut [31] (fun v31 wc=>∃ (kq:Nat) (yk:Bool),v31=.bool yk∧Aside0 (fbj.j0 kq zk zd yk ya yc yd ye yf yg yh yi yj yb=some (r1,r2))∧Aside0 (kq≤k)∧Aside0 (Kd.R (Kd.int .i64) 3 wc w.heap.size (fun k_=>(w.heap.size≤k_)∧some k_≠(z1:Value).ownBlock) z0 zk)∧Aside0 (Kd.R (Kd.int .i64) 3 wc w.heap.size (fun k_=>(w.heap.size≤k_)∧some k_≠(z0:Value).ownBlock) z1 zd)∧Aside0 (wc.heap[zb]?=some (.cells (aT ya yc yd ye yf yg yh yi yj yo yb.length yn) 24 (0,0)))∧Aside0 (Below w.heap.size w wc))
 case first =>
  have H:=HC6.out
  clear HC6
  by_cases c14:zo=0
  rotate_left
  ·rw [iN c14] at H
   have zm:=bF c14
   have yx:=nT c14
   (first|rw [zm]|(simp only [i64_w,i32_w];rw [zm])|skip)
   have H':=aM H
   clear H
   go_wp2
   go_meet
   case rel=>exact⟨_,(true),(pF),H',⟨pO⟩,⟨by(with_reducible repeat(first|apply rA|apply rN|apply rD));exact Kd.R_mono zl.out (fun _ hk=>⟨hk.1.1,hk.2⟩)⟩,⟨by(with_reducible repeat(first|apply rA|apply rN|apply rD));exact Kd.R_mono zu.out (fun _ hk=>⟨hk.1.1,hk.2⟩)⟩,⟨pK za.out⟩,⟨qB1 HB zc⟩⟩
  rw [ip c14] at H
  have zm:=bT c14
  have yx:=nF c14
  clear c14
  (first|rw [zm]|(simp only [i64_w,i32_w];rw [zm])|skip)
  have H':=aM H
  clear H
  go_wp2
  go_meet
  case rel=>exact⟨_,(!zz),(pF),H',⟨pO⟩,⟨by(with_reducible repeat(first|apply rA|apply rN|apply rD));exact Kd.R_mono zl.out (fun _ hk=>⟨hk.1.1,hk.2⟩)⟩,⟨by(with_reducible repeat(first|apply rA|apply rN|apply rD));exact Kd.R_mono zu.out (fun _ hk=>⟨hk.1.1,hk.2⟩)⟩,⟨pK za.out⟩,⟨qB1 HB zc⟩⟩
 clear HC6
 try clear c1
 try clear hcz8
 obtain⟨kq,yk,rfl,HA,HJ5,zj,zf,za,HB⟩:=hcut
 cases kq with
 | zero=>exact absurd HA.out (by simp [fbj.j0])
 | succ kj5=>?_
 have H:=HA.out
 clear HA
 simp only [fbj.j0] at H
 by_cases c15:yk=true
 ·subst c15
  rw [ip rfl] at H
  replace H:=oi2 H
  obtain⟨rfl,rfl⟩:=H
  go_wp2
  go_ret2
  exact⟨pE,qB1 HB zc⟩
 replace c15:=Bool.eq_false_iff.mpr c15
 subst c15
 rw [iN (show ¬ (false=true) by decide)] at H
 replace H:=oB H
 obtain⟨zg,z2,H⟩:=H
 try dsimp only at H
 have A16:=aM z2
 clear z2
 by_cases c17:0≤ya
 rotate_left
 ·rw [iN c17] at H
  cases H
 rw [ip c17] at H
 have c17b0:=dT c17
 clear c17
 by_cases c18:ya < (zd.length:Int)
 rotate_left
 ·rw [iN c18] at H
  cases H
 rw [ip c18] at H
 have c18b0:=dT c18
 clear c18
 by_cases c19:0≤(rd zd ya)
 rotate_left
 ·rw [iN c19] at H
  cases H
 rw [ip c19] at H
 have c19b0:=dT c19
 clear c19
 by_cases c20:(rd zd ya) < (yb.length:Int)
 rotate_left
 ·rw [iN c20] at H
  cases H
 rw [ip c20] at H
 have c20b0:=dT c20
 clear c20
 by_cases c21:ya < (zg.length:Int)
 rotate_left
 ·rw [iN c21] at H
  cases H
 rw [ip c21] at H
 have c21b0:=dT c21
 clear c21
 obtain⟨zq,zr⟩:∃ y_:List Int,y_=(zg.set (ya:Int).toNat (rd yb (rd zd ya))):=⟨_,rfl⟩
 replace H:((fco.f kj5 zk zq).bind fun bt458=>(some (bt458.1,bt458.2)))=some (r1,r2):=pH zr H
 have Ny457:=aM zr
 clear zr
 replace H:=oB H
 obtain⟨⟨t458,t459⟩,z3,H⟩:=H
 try dsimp only at H
 have A23:=aM z3
 clear z3
 replace H:=oi2 H
 obtain⟨rfl,rfl⟩:=H
 obtain⟨y1,zw,y2⟩:=Kd.R_slice zf.out
 subst y2
 try go_wp2_with (first|((with_reducible refine gC 42 rfl ?_);refine gL 33 Try.func42 #[.slice y1 zd.length zw] ?_;(with_reducible refine(fbw.calls _ _ zd zg _ ?s1 ?s2 A16.out).mono ?_);(case s1=>exact sR zf);(case s2=>exact sL zf);rintro e w25 ⟨v453,rfl,ho0,hb⟩;refine⟨_,rfl,?_⟩;have zi:=aM (Kd.R_lower (Kd.R_new' (Kd.R_new' (Kd.R_newM (M:=fun k_=>(w.heap.size≤k_)) ho0 (below_size (qB1 HB zc)) (fun k_ h_=>h_)) (Kd.R_lt (pR zj.out))) (Kd.R_lt (pR zf.out))) (below_size (qB1 HB zc)));replace zj:=eR zj ho0 hb;replace zf:=eR zf ho0 hb;replace za:=bK za hb;replace HB:=bS (qB1 HB zc) hb;(try clear hb);(try clear hk);(try clear hi);(try clear ho0)))
 replace zj:=aM (Kd.R_drew zj.out)
 replace zf:=aM (Kd.R_drew zf.out)
 replace zi:=aM (Kd.R_drew zi.out)
 replace za:=aM (blk_drew za.out)
 replace HB:=aM (below_drew1 HB.out)
 obtain⟨yp,⟨⟩,yl,p455,q455⟩:=zI (Kd.R_reads' zf.out).2.2 ya
 obtain⟨yu,⟨⟩,ym,p456,q456⟩:=zI zs.out (rd zd ya)
 have yq:=zW HB ym
 have y5:0≤(ya:Int):=oD
 have y6:(ya:Int) < ((zg.length:Int):Int):=oD
 obtain⟨yr,zx,z4,z5,gl22,cl22,HG22⟩:=Kd.R_form zi.out (by omega)
 (first|cases z4|(injection z4 with ea_ en_ ec_;(first|subst ea_|(injection ea_ with ea_;subst ea_));subst ec_;clear en_))
 have GB22:=aM z5
 have GG22:=aM HG22
 clear z5 gl22 HG22
 obtain⟨yv,hf22_0⟩:=Kd.R_celln 0 zi.out (ya:Int) y5 y6
 have HP27:=Kd.R_putn zi.out (ya:Int) (rd yb (rd zd ya))
 rw [← Ny457.out] at HP27
 have HQ27:=aM HP27
 clear HP27
 refine sT 14 [13] (fun w'=>w'.cell? ⟨zb,0,none⟩=some (.int .i64 ya)∧w'.cell? ⟨zb,1,none⟩=some (.int .i64 yc)∧w'.cell? ⟨zb,2,none⟩=some (.int .i64 yd)∧w'.cell? ⟨zb,3,none⟩=some (.int .i64 ye)∧w'.cell? ⟨zb,4,none⟩=some (.int .i64 yf)∧w'.cell? ⟨zb,5,none⟩=some (.int .i64 yg)∧w'.cell? ⟨zb,6,none⟩=some (.int .i64 yh)∧w'.cell? ⟨zb,7,none⟩=some (.int .i64 yi)∧w'.cell? ⟨zb,8,none⟩=some (.bool yj)∧w'.cell? ⟨zb,9,none⟩=some (.slice (some yu) yb.length yn)∧w'.cell? (yp.add (ya).toNat)=some (.int .i64 (rd zd ya))∧w'.cell? (yu.add ((rd zd ya)).toNat)=some (.int .i64 (rd yb (rd zd ya)))) fbj.tab6 fbj.bits6 (c10 za ⟨yl,(zW HB ym)⟩) (fun hHeld HT_ HW_=>?_)
 generalize w25.drew=w26 at zj zf zi za HB GG22 HQ27 hf22_0 yv yl yq hHeld ⊢
 refine pQ 0 34 14 1 HT_ ?_
 refine pQ 1 35 14 3 HT_ ?_
 refine pQ 3 37 14 11 HT_ ?_
 refine pQ 5 39 14 43 HT_ ?_
 refine pQ 6 40 14 107 HT_ ?_
 refine pU12 2 36 14 111 HT_ HW_ hHeld ?_
 refine pU12 4 38 14 127 HT_ HW_ hHeld ?_
 refine pU12 7 41 14 255 HT_ HW_ hHeld ?_
 refine pQ 8 42 14 511 HT_ ?_
 refine pU12 9 43 14 1023 HT_ HW_ hHeld ?_
 refine pQ 10 44 14 2047 HT_ ?_
 refine pU12 11 45 14 4095 HT_ HW_ hHeld ?_
 refine pQ 12 46 14 8191 HT_ ?_
 refine last_ (i:=13) (N:=none) (bm 14 16383) rfl rfl (one_of HT_.out (by kernel_rfl)) (by decide) (fun K hK=>?_)
 refine skip_ (w1:=?_) (by rfl) rfl ?_ ?_
 rotate_left
 ·go_simp
  rfl
 refine hK.out _ _ ?_
 clear hK K
 refine dN HT_ ?_
 obtain⟨z6,zy,y3⟩:=Kd.R_slice zj.out
 subst y3
 try go_wp2_with (first|((with_reducible refine gC 41 rfl ?_);refine goesL_ (some 49) rfl rfl Try.func41 (by kernel_rfl) rfl #[.slice z6 zk.length zy,.slice (some ⟨yr,0,none⟩) zq.length zx] rfl (by(try simp only [List.map_toArray,List.map_cons,List.map_nil]);first|done|(rw [show zq.length=zg.length from (Kd.R_reads' HQ27.out).1.symm] <;> rfl)|rfl|(simp only [List.length_drop,List.length_take];rfl)) ?_;(with_reducible refine(fco.calls kj5 _ _ zk _ _ zq t458 t459 _ ?s1 ?s2 ?s3 ?s4 A23.out).mono ?_);(case s1=>refine(Kd.R_reads' (e:=3) (base:=w.heap.size) (ok:=fun k_=>(((w.heap.size≤k_)∧some k_≠(.slice (some yp) zd.length zw:Value).ownBlock)∧some k_≠(.slice (some ⟨yr,0,none⟩) zg.length zx:Value).ownBlock)) (n:=zk.length) (c:=zy) ?_).2.2;exact(by(with_reducible repeat(first|apply rA|apply rN|apply rD));exact(Kd.R_mono (Kd.R_far (p:=⟨yr,(ya:Int).toNat,none⟩) (Kd.R_mono zj.out (fun k_ hk=>(⟨hk,fun e_=>hk.2 (by rw [e_];rfl)⟩:_∧k_≠yr))) (fun _ hk=>hk.2) (.int .i64 (rd yb (rd zd ya)))) (fun _ h_=>h_.1))));(case s2=>exact sL zj);(case s3=>refine(Kd.R_reads' (e:=3) (base:=w.heap.size) (ok:=fun k_=>((((w.heap.size≤k_)∧True)∧some k_≠(.slice z6 zk.length zy:Value).ownBlock)∧some k_≠(.slice (some yp) zd.length zw:Value).ownBlock)) (n:=zg.length) (c:=zx) ?_).2.2;exact(pR HQ27.out));(case s4=>rw [show zq.length=zg.length from (Kd.R_reads' HQ27.out).1.symm];exact sL zi);rintro e w' ⟨rfl,⟨nd,rfl⟩⟩;refine⟨_,rfl,?_⟩))
 go_ret2
 exact⟨pE,qB2 HB GB22 zc⟩
def fad.f (k:Nat)  : Option (Bool):=(fbg.f k 38 0 0 0 0 0 0 0 0 false (([2,0,2]:List Int)) (([(([3]:List Int))]:List (List Int))) 2).bind fun bt470=>((fbj.f k 0 2 0 0 0 0 0 0 false (([0,1,0]:List Int)) (([3]:List Int)) 2).bind fun bt479=>(if bt470.1=0 then(if bt470.2.1=2 then(if bt470.2.2=true then(if bt479.1=0 then(if bt479.2=true then((fbi.f 37).bind fun zf=>(if zf=true then((fbi.f 38).bind fun zg=>(some (!zg)))else(some false)))else(some false))else(some false))else(some false))else(some false))else(some false)))
theorem fad.calls (k:Nat)  (w:World)(h:fad.f k  = some true) :
  Calls Try.prog 9 #[] w fun e w'=>e=.returned (.bool true)∧Below w.heap.size w w':=by
 have hu24:=Try.underlying24
 have HB:=aM (Below.refl w.heap.size w)
 have H:((fbg.f k 38 0 0 0 0 0 0 0 0 false (([2,0,2]:List Int)) (([(([3]:List Int))]:List (List Int))) 2).bind fun bt470=>((fbj.f k 0 2 0 0 0 0 0 0 false (([0,1,0]:List Int)) (([3]:List Int)) 2).bind fun bt479=>(if bt470.1=0 then(if bt470.2.1=2 then(if bt470.2.2=true then(if bt479.1=0 then(if bt479.2=true then((fbi.f 37).bind fun zf=>(if zf=true then((fbi.f 38).bind fun zg=>(some (!zg)))else(some false)))else(some false))else(some false))else(some false))else(some false))else(some false))))=some true:=h
 clear h
 obtain⟨zh,zr⟩:∃ y_:List Int,y_=(([2,0,2]:List Int)):=⟨_,rfl⟩
 replace H:((fbg.f k 38 0 0 0 0 0 0 0 0 false zh (([(([3]:List Int))]:List (List Int))) 2).bind fun bt470=>((fbj.f k 0 2 0 0 0 0 0 0 false (([0,1,0]:List Int)) (([3]:List Int)) 2).bind fun bt479=>(if bt470.1=0 then(if bt470.2.1=2 then(if bt470.2.2=true then(if bt479.1=0 then(if bt479.2=true then((fbi.f 37).bind fun zf=>(if zf=true then((fbi.f 38).bind fun zg=>(some (!zg)))else(some false)))else(some false))else(some false))else(some false))else(some false))else(some false))))=some true:=pH zr H
 have zy:=aM zr
 clear zr
 obtain⟨zp,zs⟩:∃ y_:List Int,y_=(([3]:List Int)):=⟨_,rfl⟩
 replace H:((fbg.f k 38 0 0 0 0 0 0 0 0 false zh (([zp]:List (List Int))) 2).bind fun bt470=>((fbj.f k 0 2 0 0 0 0 0 0 false (([0,1,0]:List Int)) (([3]:List Int)) 2).bind fun bt479=>(if bt470.1=0 then(if bt470.2.1=2 then(if bt470.2.2=true then(if bt479.1=0 then(if bt479.2=true then((fbi.f 37).bind fun zf=>(if zf=true then((fbi.f 38).bind fun zg=>(some (!zg)))else(some false)))else(some false))else(some false))else(some false))else(some false))else(some false))))=some true:=pH zs H
 have zz:=aM zs
 clear zs
 obtain⟨z3,zt⟩:∃ y_:List (List Int),y_=(([zp]:List (List Int))):=⟨_,rfl⟩
 replace H:((fbg.f k 38 0 0 0 0 0 0 0 0 false zh z3 2).bind fun bt470=>((fbj.f k 0 2 0 0 0 0 0 0 false (([0,1,0]:List Int)) (([3]:List Int)) 2).bind fun bt479=>(if bt470.1=0 then(if bt470.2.1=2 then(if bt470.2.2=true then(if bt479.1=0 then(if bt479.2=true then((fbi.f 37).bind fun zf=>(if zf=true then((fbi.f 38).bind fun zg=>(some (!zg)))else(some false)))else(some false))else(some false))else(some false))else(some false))else(some false))))=some true:=pH zt H
 have z0:=aM zt
 clear zt
 replace H:=oB H
 obtain⟨⟨zl,zm,z4⟩,A10,H⟩:=H
 try dsimp only at H
 have A1:=aM A10
 clear A10
 obtain⟨zw,zu⟩:∃ y_:List Int,y_=(([0,1,0]:List Int)):=⟨_,rfl⟩
 replace H:((fbj.f k 0 2 0 0 0 0 0 0 false zw (([3]:List Int)) 2).bind fun bt479=>(if zl=0 then(if zm=2 then(if z4=true then(if bt479.1=0 then(if bt479.2=true then((fbi.f 37).bind fun zf=>(if zf=true then((fbi.f 38).bind fun zg=>(some (!zg)))else(some false)))else(some false))else(some false))else(some false))else(some false))else(some false)))=some true:=pH zu H
 have z1:=aM zu
 clear zu
 obtain⟨zx,zv⟩:∃ y_:List Int,y_=(([3]:List Int)):=⟨_,rfl⟩
 replace H:((fbj.f k 0 2 0 0 0 0 0 0 false zw zx 2).bind fun bt479=>(if zl=0 then(if zm=2 then(if z4=true then(if bt479.1=0 then(if bt479.2=true then((fbi.f 37).bind fun zf=>(if zf=true then((fbi.f 38).bind fun zg=>(some (!zg)))else(some false)))else(some false))else(some false))else(some false))else(some false))else(some false)))=some true:=pH zv H
 have z2:=aM zv
 clear zv
 replace H:=oB H
 obtain⟨⟨zq,t480⟩,A20,H⟩:=H
 try dsimp only at H
 have A2:=aM A20
 clear A20
 by_cases c3:zl=0
 rotate_left
 ·rw [iN c3] at H
  have ya:=bF c3
  have yb:=nT c3
  cases H
 rw [ip c3] at H
 have ya:=bT c3
 have yb:=nF c3
 clear c3
 by_cases c4:zm=2
 rotate_left
 ·rw [iN c4] at H
  have yc:=bF c4
  have yd:=nT c4
  cases H
 rw [ip c4] at H
 have yc:=bT c4
 have yd:=nF c4
 clear c4
 by_cases c5:z4=true
 rotate_left
 ·replace c5:=Bool.eq_false_iff.mpr c5
  subst c5
  rw [iN (show ¬ (false=true) by decide)] at H
  cases H
 subst c5
 rw [ip rfl] at H
 by_cases c6:zq=0
 rotate_left
 ·rw [iN c6] at H
  have ye:=bF c6
  have yf:=nT c6
  cases H
 rw [ip c6] at H
 have ye:=bT c6
 have yf:=nF c6
 clear c6
 by_cases c7:t480=true
 rotate_left
 ·replace c7:=Bool.eq_false_iff.mpr c7
  subst c7
  rw [iN (show ¬ (false=true) by decide)] at H
  cases H
 subst c7
 rw [ip rfl] at H
 replace H:=oB H
 obtain⟨zf,A80,H⟩:=H
 try dsimp only at H
 have A8:=aM A80
 clear A80
 by_cases c9:zf=true
 rotate_left
 ·replace c9:=Bool.eq_false_iff.mpr c9
  subst c9
  rw [iN (show ¬ (false=true) by decide)] at H
  cases H
 subst c9
 rw [ip rfl] at H
 replace H:=oB H
 obtain⟨zg,z5,H⟩:=H
 try dsimp only at H
 have A10:=aM z5
 clear z5
 have hv_:=aM (Option.some.inj H)
 clear H
 go_enter Try.func9,Try.ntmps9
 go_wp2_with (first|((with_reducible refine gD 7 rfl ?_);refine Kd.R_lit (Kd.int .i64) _ 3 ?hg (N:=7) ?hd (xs:=([2,0,2]:List Int)) (inner:=[.int .i64 2,.int .i64 0,.int .i64 2]) (ok:=fun _=>True) (okp:=fun _=>True) ?hr ?hp (fun _ hk=>hk) trivial (Below.refl _ _) (Nat.le_refl _) (by simp) ?_;(case hd=>rfl);(case hg=>rfl);(case hr=>first|(go_simp;done)|(go_simp;rfl));(case hp=>exact(Reps.one (show Kd.M (Kd.int .i64) _ _ _ 2 [.int .i64 2] from rfl) (Reps.one (show Kd.M (Kd.int .i64) _ _ _ 0 [.int .i64 0] from rfl) (Reps.one (show Kd.M (Kd.int .i64) _ _ _ 2 [.int .i64 2] from rfl) (Reps.none _ _)))));intro v461 w11 ho12 hb hg_ hnew_;clear hg_ hnew_;(first|rw [← zy.out] at ho12|(simp only [Int.reduceToNat] at ho12;rw [← zy.out] at ho12));have zb:=aM (Kd.R_lower ho12 (below_size (qB HB)));replace HB:=bS (qB HB) hb;clear hb ho12;obtain⟨zj,zk,yg⟩:=Kd.R_slice zb.out;subst yg)|((with_reducible refine gD 1 rfl ?_);refine bX 1 24 #[.int .i64 0,.int .i64 0,.int .i64 0,.int .i64 0,.int .i64 0,.int .i64 0,.int .i64 0,.int .i64 0,.bool false,.slice none 0 0] ?_;intro za hg w14 hbox hb;replace zb:=bR zb hb;have zc:=aM (hbox);have GW463:=gE (w:=w) hg (qB HB);have ze:=GW463;replace HB:=bS (qB HB) hb;clear hb hbox hg;have hcz15:=blk10 zc.out)|((with_reducible refine gD 11 rfl ?_);refine Kd.R_lit (Kd.int .i64) _ 3 ?hg (N:=11) ?hd (xs:=([3]:List Int)) (inner:=[.int .i64 3]) (ok:=fun _=>True) (okp:=fun _=>True) ?hr ?hp (fun _ hk=>hk) trivial (Below.refl _ _) (Nat.le_refl _) (by simp) ?_;(case hd=>rfl);(case hg=>rfl);(case hr=>first|(go_simp;done)|(go_simp;rfl));(case hp=>exact(Reps.one (show Kd.M (Kd.int .i64) _ _ _ 3 [.int .i64 3] from rfl) (Reps.none _ _)));intro v465 w16 ho17 hb hg_ hnew_;clear hg_ hnew_;(first|rw [← zz.out] at ho17|(simp only [Int.reduceToNat] at ho17;rw [← zz.out] at ho17));have zn:=aM (Kd.R_lower (Kd.R_new' ho17 (Kd.R_lt (by(with_reducible repeat(first|apply rA|apply rN|apply rD));exact(Kd.R_mono (Kd.R_far (p:=⟨za,9,none⟩) (Kd.R_far (p:=⟨za,8,none⟩) (Kd.R_far (p:=⟨za,7,none⟩) (Kd.R_far (p:=⟨za,6,none⟩) (Kd.R_far (p:=⟨za,5,none⟩) (Kd.R_far (p:=⟨za,4,none⟩) (Kd.R_far (p:=⟨za,3,none⟩) (Kd.R_far (p:=⟨za,2,none⟩) (Kd.R_far (p:=⟨za,1,none⟩) (Kd.R_far (p:=⟨za,0,none⟩) (Kd.R_types zb.out zc.out (by decide)) (fun _ hk=>hk.2) (.int .i64 0)) (fun _ hk=>hk.2) (.int .i64 0)) (fun _ hk=>hk.2) (.int .i64 0)) (fun _ hk=>hk.2) (.int .i64 0)) (fun _ hk=>hk.2) (.int .i64 0)) (fun _ hk=>hk.2) (.int .i64 0)) (fun _ hk=>hk.2) (.int .i64 0)) (fun _ hk=>hk.2) (.int .i64 0)) (fun _ hk=>hk.2) (.bool false)) (fun _ hk=>hk.2) (.slice zj zh.length zk)) (fun _ h_=>h_.1))))) (below_size (qB1 HB ze)));replace zb:=aM (Kd.R_elder' (by(with_reducible repeat(first|apply rA|apply rN|apply rD));exact(Kd.R_mono (Kd.R_far (p:=⟨za,9,none⟩) (Kd.R_far (p:=⟨za,8,none⟩) (Kd.R_far (p:=⟨za,7,none⟩) (Kd.R_far (p:=⟨za,6,none⟩) (Kd.R_far (p:=⟨za,5,none⟩) (Kd.R_far (p:=⟨za,4,none⟩) (Kd.R_far (p:=⟨za,3,none⟩) (Kd.R_far (p:=⟨za,2,none⟩) (Kd.R_far (p:=⟨za,1,none⟩) (Kd.R_far (p:=⟨za,0,none⟩) (Kd.R_types zb.out zc.out (by decide)) (fun _ hk=>hk.2) (.int .i64 0)) (fun _ hk=>hk.2) (.int .i64 0)) (fun _ hk=>hk.2) (.int .i64 0)) (fun _ hk=>hk.2) (.int .i64 0)) (fun _ hk=>hk.2) (.int .i64 0)) (fun _ hk=>hk.2) (.int .i64 0)) (fun _ hk=>hk.2) (.int .i64 0)) (fun _ hk=>hk.2) (.int .i64 0)) (fun _ hk=>hk.2) (.bool false)) (fun _ hk=>hk.2) (.slice zj zh.length zk)) (fun _ h_=>h_.1))) (Kd.R_base ho17) hb);replace zc:=aM (blk_below (g:=za) (o:=.cells (aT 0 0 0 0 0 0 0 0 false zj zh.length zk) 24 (0,0)) (by(with_reducible repeat(first|apply bN|apply bD|apply bA));refine blk_put (cs:=#[.int .i64 0,.int .i64 0,.int .i64 0,.int .i64 0,.int .i64 0,.int .i64 0,.int .i64 0,.int .i64 0,.bool false,.slice none 0 0]) ?_ 9 _ rfl;(with_reducible repeat(first|apply bN|apply bD|apply bA));refine blk_put (cs:=#[.int .i64 0,.int .i64 0,.int .i64 0,.int .i64 0,.int .i64 0,.int .i64 0,.int .i64 0,.int .i64 0,.bool false,.slice none 0 0]) ?_ 8 _ rfl;(with_reducible repeat(first|apply bN|apply bD|apply bA));refine blk_put (cs:=#[.int .i64 0,.int .i64 0,.int .i64 0,.int .i64 0,.int .i64 0,.int .i64 0,.int .i64 0,.int .i64 0,.bool false,.slice none 0 0]) ?_ 7 _ rfl;(with_reducible repeat(first|apply bN|apply bD|apply bA));refine blk_put (cs:=#[.int .i64 0,.int .i64 0,.int .i64 0,.int .i64 0,.int .i64 0,.int .i64 0,.int .i64 0,.int .i64 0,.bool false,.slice none 0 0]) ?_ 6 _ rfl;(with_reducible repeat(first|apply bN|apply bD|apply bA));refine blk_put (cs:=#[.int .i64 0,.int .i64 0,.int .i64 0,.int .i64 0,.int .i64 0,.int .i64 0,.int .i64 0,.int .i64 0,.bool false,.slice none 0 0]) ?_ 5 _ rfl;(with_reducible repeat(first|apply bN|apply bD|apply bA));refine blk_put (cs:=#[.int .i64 0,.int .i64 0,.int .i64 0,.int .i64 0,.int .i64 0,.int .i64 0,.int .i64 0,.int .i64 0,.bool false,.slice none 0 0]) ?_ 4 _ rfl;(with_reducible repeat(first|apply bN|apply bD|apply bA));refine blk_put (cs:=#[.int .i64 0,.int .i64 0,.int .i64 0,.int .i64 0,.int .i64 0,.int .i64 0,.int .i64 0,.int .i64 0,.bool false,.slice none 0 0]) ?_ 3 _ rfl;(with_reducible repeat(first|apply bN|apply bD|apply bA));refine blk_put (cs:=#[.int .i64 0,.int .i64 0,.int .i64 0,.int .i64 0,.int .i64 0,.int .i64 0,.int .i64 0,.int .i64 0,.bool false,.slice none 0 0]) ?_ 2 _ rfl;(with_reducible repeat(first|apply bN|apply bD|apply bA));refine blk_put (cs:=#[.int .i64 0,.int .i64 0,.int .i64 0,.int .i64 0,.int .i64 0,.int .i64 0,.int .i64 0,.int .i64 0,.bool false,.slice none 0 0]) ?_ 1 _ rfl;(with_reducible repeat(first|apply bN|apply bD|apply bA));refine blk_put (cs:=#[.int .i64 0,.int .i64 0,.int .i64 0,.int .i64 0,.int .i64 0,.int .i64 0,.int .i64 0,.int .i64 0,.bool false,.slice none 0 0]) ?_ 0 _ rfl;(with_reducible repeat(first|apply bN|apply bD|apply bA));exact zc.out) hb);replace HB:=bS (qB1 HB ze) hb;clear hb ho17;obtain⟨z6,z7,yh⟩:=Kd.R_slice zn.out;subst yh)|((with_reducible refine gD 12 rfl ?_);refine Kd.N_lit (Kd.slice 3 (Kd.int .i64)) _ 22 ?hg (N':=12) ?hd (xs:=([zp]:List (List Int))) (inner:=[.slice z6 zp.length z7]) (ok:=(fun k_=>some k_≠(.slice zj zh.length zk:Value).ownBlock∧k_≠za)) (okp:=(fun k_=>some k_≠(.slice zj zh.length zk:Value).ownBlock∧k_≠za)) ?hr ?hp (fun _ hk=>hk) ((show ∀ k_,w16.heap.size≤k_→(fun k_=>some k_≠(.slice zj zh.length zk:Value).ownBlock∧k_≠za) k_ from fun k_ hk=>⟨Kd.fresh' (Kd.R_lt (pR zb.out)) k_ hk,Kd.freshB (g:=za) (pK zc.out) k_ hk⟩) _ (Nat.le_refl _)) (Below.refl _ _) (Nat.le_refl _) (by simp) ?_;(case hd=>rfl);(case hg=>rfl);(case hr=>first|(go_simp;done)|(go_simp;rfl));(case hp=>exact(Reps.one (show Kd.FK (Kd.slice 3 (Kd.int .i64)) _ _ zp [.slice z6 zp.length z7] from (Kd.FK_slice_mk (Kd.R_reads' (Kd.R_mono (ok':=(fun k_=>some k_≠(.slice zj zh.length zk:Value).ownBlock∧k_≠za)) (Kd.R_types (zn.out) zc.out (by decide)) (fun k_ hk=>⟨hk.1.2,hk.2⟩))).2.1 (Kd.R_F (Kd.R_mono (ok':=(fun k_=>some k_≠(.slice zj zh.length zk:Value).ownBlock∧k_≠za)) (Kd.R_types (zn.out) zc.out (by decide)) (fun k_ hk=>⟨hk.1.2,hk.2⟩))))) (Reps.none _ _)));intro v468 w19 ho20 hb hg_ hnew_;clear hg_ hnew_;(first|rw [← z0.out] at ho20|(simp only [Int.reduceToNat] at ho20;rw [← z0.out] at ho20));replace zb:=bR zb hb;have zd:=aM (Kd.N_lower ho20 (below_size (qB1 HB ze)));replace zc:=bK zc hb;replace HB:=bS (qB1 HB ze) hb;clear zn;clear hb ho20;obtain⟨yi,yj,yk⟩:=Kd.N_slice zd.out;subst yk)|((with_reducible refine gC 15 rfl ?_);refine gL 13 Try.func15 #[.int .i64 38,.agg (aT 0 0 0 0 0 0 0 0 false zj zh.length zk),.slice yi z3.length yj,.int .i64 2] ?_;(with_reducible refine(fbg.calls k 38 0 0 0 0 0 0 0 0 false _ _ zh _ _ z3 2 zl zm true _ ?s1 ?s2 ?s3 ?s4 A1.out).mono ?_);(case s1=>exact sR zb);(case s2=>exact sL zb);(case s3=>exact pC (Kd.N_reads' zd.out).2.2);(case s4=>exact(Kd.N_reads' zd.out).2.1);rintro e w22 ⟨rfl,hb⟩;refine⟨_,rfl,?_⟩;replace zb:=bR zb hb;replace zd:=aM (Kd.N_below (by(with_reducible repeat(first|apply Kd.N_alloc|apply Kd.N_drewN|apply Kd.N_drew));exact zd.out) hb);replace zc:=bK zc hb;replace HB:=bS (qB1 HB ze) hb;(try clear hb);(try clear hk);(try clear hi))|((with_reducible refine gD 18 rfl ?_);refine Kd.R_lit (Kd.int .i64) _ 3 ?hg (N:=18) ?hd (xs:=([0,1,0]:List Int)) (inner:=[.int .i64 0,.int .i64 1,.int .i64 0]) (ok:=fun _=>True) (okp:=fun _=>True) ?hr ?hp (fun _ hk=>hk) trivial (Below.refl _ _) (Nat.le_refl _) (by simp) ?_;(case hd=>rfl);(case hg=>rfl);(case hr=>first|(go_simp;done)|(go_simp;rfl));(case hp=>exact(Reps.one (show Kd.M (Kd.int .i64) _ _ _ 0 [.int .i64 0] from rfl) (Reps.one (show Kd.M (Kd.int .i64) _ _ _ 1 [.int .i64 1] from rfl) (Reps.one (show Kd.M (Kd.int .i64) _ _ _ 0 [.int .i64 0] from rfl) (Reps.none _ _)))));intro v474 w23 ho24 hb hg_ hnew_;clear hg_ hnew_;(first|rw [← z1.out] at ho24|(simp only [Int.reduceToNat] at ho24;rw [← z1.out] at ho24));replace zd:=aM (Kd.N_elder' (by(with_reducible repeat(first|apply Kd.N_alloc|apply Kd.N_drewN|apply Kd.N_drew));exact zd.out) (Kd.R_base ho24) hb);have zi:=aM (Kd.R_lower (Kd.R_new' ho24 (Kd.R_lt (pR zb.out))) (below_size (qB1 HB ze)));replace zb:=eR zb ho24 hb;replace zc:=bK zc hb;replace HB:=bS (qB1 HB ze) hb;clear hb ho24;obtain⟨yl,ym,yn⟩:=Kd.R_slice zi.out;subst yn)|((with_reducible refine gD 20 rfl ?_);refine Kd.R_lit (Kd.int .i64) _ 3 ?hg (N:=20) ?hd (xs:=([3]:List Int)) (inner:=[.int .i64 3]) (ok:=fun _=>True) (okp:=fun _=>True) ?hr ?hp (fun _ hk=>hk) trivial (Below.refl _ _) (Nat.le_refl _) (by simp) ?_;(case hd=>rfl);(case hg=>rfl);(case hr=>first|(go_simp;done)|(go_simp;rfl));(case hp=>exact(Reps.one (show Kd.M (Kd.int .i64) _ _ _ 3 [.int .i64 3] from rfl) (Reps.none _ _)));intro v477 w26 ho27 hb hg_ hnew_;clear hg_ hnew_;(first|rw [← z2.out] at ho27|(simp only [Int.reduceToNat] at ho27;rw [← z2.out] at ho27));replace zd:=aM (Kd.N_elder' (by(with_reducible repeat(first|apply Kd.N_alloc|apply Kd.N_drewN|apply Kd.N_drew));exact zd.out) (Kd.R_base ho27) hb);have zo:=aM (Kd.R_lower (Kd.R_new' (Kd.R_new' ho27 (Kd.R_lt (pR zb.out))) (Kd.R_lt (pR zi.out))) (below_size (qB1 HB ze)));replace zb:=eR zb ho27 hb;replace zi:=eR zi ho27 hb;replace zc:=bK zc hb;replace HB:=bS (qB1 HB ze) hb;clear hb ho27;obtain⟨z8,z9,yo⟩:=Kd.R_slice zo.out;subst yo)|((with_reducible refine gC 16 rfl ?_);refine gL 21 Try.func16 #[.agg (aT 0 2 0 0 0 0 0 0 false yl zw.length ym),.slice z8 zx.length z9,.int .i64 2] ?_;(with_reducible refine(fbj.calls k 0 2 0 0 0 0 0 0 false _ _ zw (fun k_=>some k_=(.slice z8 zx.length z9:Value).ownBlock) _ _ zx 2 zq true _ ?s1 ?s2 ?s3 A2.out).mono ?_);(case s1=>exact sR zi);(case s2=>exact sL zi);(case s3=>exact Kd.R_V (Kd.R_tight rfl (Kd.R_types (Kd.R_apart' (zo.out) (Kd.N_typed zd.out) (by decide)) zc.out (by decide))));rintro e w29 ⟨rfl,hb⟩;refine⟨_,rfl,?_⟩;replace zb:=bR zb hb;replace zd:=aM (Kd.N_below (by(with_reducible repeat(first|apply Kd.N_alloc|apply Kd.N_drewN|apply Kd.N_drew));exact zd.out) hb);replace zi:=bR zi hb;replace zo:=bR zo hb;replace zc:=bK zc hb;replace HB:=bS (qB1 HB ze) hb;(try clear hb);(try clear hk);(try clear hi))|(go_at_call 14;(with_reducible refine(fbi.calls 37 true _ A8.out).mono ?_);rintro e w' ⟨rfl,⟨nd,rfl⟩⟩)|(go_at_call 14;(with_reducible refine(fbi.calls 38 zg _ A10.out).mono ?_);rintro e w' ⟨rfl,⟨nd,rfl⟩⟩))
 go_ret
 replace hv_:=hv_.out
 exact⟨pE,qB1 HB ze⟩
end Go.Proofs.Ytcdiobcldhiemaa.Q
namespace Go.Proofs.Ytcdiobcldhiemaa.Pure
open Go.RowKit Go.Proofs.Ytcdiobcldhiemaa.Q Go.Proofs.YtcdiobcldhiemaaW.PrintWords Go.Proofs.YtcdiobcldhiemaaW.PrintLast
theorem Same29:∃ k,fad.f k=some true:=⟨30,by decide +kernel⟩
end Go.Proofs.Ytcdiobcldhiemaa.Pure
namespace Go.Proofs.Ytcdiobcldhiemaa.Q
open Go.RowKit Go.Proofs.YtcdiobcldhiemaaW.PrintWords Go.Proofs.YtcdiobcldhiemaaW.PrintLast Go.Proofs.YtcdiobcldhiemaaW.PrintMore
attribute [local go_sem] max2_int min2_int max_two min_two max_three min_three max_four min_four   -- for this text's walks alone
set_option linter.unusedVariables false
set_option linter.unusedSimpArgs false
def fac.f:Option Bool:=some true
theorem fac.calls (r:Bool)(w:World)(h:fac.f=some r):Calls Try.prog 9 #[] w fun e w'=>e=.returned (.bool r)∧Below w.heap.size w w':=by
 obtain rfl:=Option.some.inj h
 obtain⟨k,hk⟩:=Pure.Same29
 exact fad.calls k w hk
def fae.l0:Nat→List Int→List Int→Int→Int→Option (Bool)
 | 0,_,_,_,_=>none
 | k + 1,x0,x1,x12,x13=>if x13 < x12 then(if 0≤x13 then(if x13 < (x0.length:Int)then(if x13 < (x1.length:Int)then(if(rd x0 x13)=(rd x1 x13)then(fae.l0 k x0 x1 x12 (wrap64 (x13 + 1)))else(some false))else(none))else(none))else(none))else(some true)
def fae.f (k:Nat) (l0:List Int) (l1:List Int):Option (Bool):=if(l0.length:Int)=(l1.length:Int)then(fae.l0 k l0 l1 (l0.length:Int) 0)else(some false)
theorem fae.calls (k:Nat)(A0:Option Addr)(c0:Nat)(l0:List Int)(A1:Option Addr)(c1:Nat)(l1:List Int)(r:Bool)(w:World)(hr0:Kd.C (Kd.int .i64) w A0 l0.length l0)(hc0:l0.length≤c0)(hr1:Kd.C (Kd.int .i64) w A1 l1.length l1)(hc1:l1.length≤c1)(h:fae.f k l0 l1=some r) :
  Calls Try.prog 12 #[.slice A0 l0.length c0,.slice A1 l1.length c1] w fun e w'=>e=.returned (.bool r)∧Drawn0 w w':=by
 have HR0:=aM hr0
 have HC0:=aM hc0
 clear hr0 hc0
 have HR1:=aM hr1
 have HC1:=aM hc1
 clear hr1 hc1
 have H:(if(l0.length:Int)=(l1.length:Int)then(fae.l0 k l0 l1 (l0.length:Int) 0)else(some false))=some r:=h
 clear h
 by_cases c3:(l0.length:Int)=(l1.length:Int)
 rotate_left
 ·rw [iN c3] at H
  have za:=bF c3
  have zb:=nT c3
  have zc:(l0.length == l1.length)=false:=by first|simpa using c3|(simp at c3 ⊢;omega)
  obtain rfl:=Option.some.inj H
  go_enter Try.func12,Try.ntmps12
  go_wp2
  repeat(go_quiet (fail);try go_wp2)
  go_ret
  exact⟨pF,by repeat(first|exact Drawn0.refl _|apply Drawn0.step)⟩
 rw [ip c3] at H
 have za:=bT c3
 have zb:=nF c3
 have zc:(l0.length == l1.length)=true:=by first|simpa using c3|(simp at c3 ⊢;omega)
 clear c3
 have H':=aM H
 clear H
 go_enter Try.func12,Try.ntmps12
 go_wp2
 repeat(go_quiet (fail);try go_wp2)
 go_loopg [13] k (fun kq v13 w'=>∃ (ya:Int),v13=.int .i64 ya∧Aside0 (fae.l0 kq l0 l1 (l0.length:Int) ya=some r)∧Aside0 (kq≤k)∧Drawn0 w w')
 case atStart=>exact⟨(0),(pF),H',⟨Nat.le_refl _⟩,by repeat(first|exact Drawn0.refl _|apply Drawn0.step)⟩
 clear H'
 try clear c1
 try clear za
 try clear zb
 try clear zc
 obtain⟨ya,rfl,HA,HK1,⟨m1,rfl⟩⟩:=hrel
 cases gk with
 | zero=>exact absurd HA.out (by simp [fae.l0])
 | succ k1=>?_
 have H:=HA.out
 clear HA
 simp only [fae.l0] at H
 by_cases c4:ya < (l0.length:Int)
 rotate_left
 ·rw [iN c4] at H
  have yf:=dF c4
  clear c4
  obtain rfl:=Option.some.inj H
  go_wp2
  repeat(go_quiet (fail);try go_wp2)
  go_ret
  exact⟨pF,by repeat(first|exact Drawn0.refl _|apply Drawn0.step)⟩
 rw [ip c4] at H
 have yf:=dT c4
 clear c4
 by_cases c5:0≤ya
 rotate_left
 ·rw [iN c5] at H
  cases H
 rw [ip c5] at H
 have c5b0:=dT c5
 clear c5
 by_cases c6:ya < (l0.length:Int)
 rotate_left
 ·rw [iN c6] at H
  cases H
 rw [ip c6] at H
 have c6b0:=dT c6
 clear c6
 by_cases c7:ya < (l1.length:Int)
 rotate_left
 ·rw [iN c7] at H
  cases H
 rw [ip c7] at H
 have c7b0:=dT c7
 clear c7
 by_cases c8:(rd l0 ya)=(rd l1 ya)
 rotate_left
 ·rw [iN c8] at H
  have yg:=bF c8
  have yh:=nT c8
  obtain rfl:=Option.some.inj H
  obtain⟨yd,⟨⟩,yb,yi,yj⟩:=zI HR0.out ya
  obtain⟨ye,⟨⟩,yc,yk,yl⟩:=zI HR1.out ya
  go_wp2
  repeat(go_quiet (fail);try go_wp2)
  go_ret
  exact⟨pF,by repeat(first|exact Drawn0.refl _|apply Drawn0.step)⟩
 rw [ip c8] at H
 have yg:=bT c8
 have yh:=nF c8
 clear c8
 have H':=aM H
 clear H
 obtain⟨yd,⟨⟩,yb,yi,yj⟩:=zI HR0.out ya
 obtain⟨ye,⟨⟩,yc,yk,yl⟩:=zI HR1.out ya
 go_wp2
 repeat(go_quiet (fail);try go_wp2)
 go_roundg k1
 case measure=>have:=HK1.out;omega
 case rel=>exact⟨(wrap64 (ya + 1)),(pF),H',⟨pO1 HK1⟩,by repeat(first|exact Drawn0.refl _|apply Drawn0.step)⟩
mutual
def fag.l0:Nat→List Int→Int→Int→Option (Int)
 | 0,_,_,_=>none
 | k + 1,x0,x10,x11=>if x11 < x10 then(if 0≤x11 then(if x11 < (x0.length:Int)then(if(rd x0 x11) < 1 then(some 8)else(fag.l0 k x0 x10 (wrap64 (x11 + 1))))else(none))else(none))else(fag.l1 k x0 1 (x0.length:Int) 0)
def fag.l1:Nat→List Int→Int→Int→Int→Option (Int)
 | 0,_,_,_,_=>none
 | k + 1,x0,x4,x21,x22=>if x22 < x21 then(if 0≤x22 then(if x22 < (x0.length:Int)then(if(rd x0 x22) > 64 then(some 12)else(if(wrap64 (x4 * (rd x0 x22))) > 64 then(some 12)else(fag.l1 k x0 (wrap64 (x4 * (rd x0 x22))) x21 (wrap64 (x22 + 1)))))else(none))else(none))else(some 0)
end
def fag.f (k:Nat) (l0:List Int):Option (Int):=if(l0.length:Int) > 6 then(some 9)else(fag.l0 k l0 (l0.length:Int) 0)
theorem fag.calls (k:Nat)(A0:Option Addr)(c0:Nat)(l0:List Int) (r:Int)(w:World)(hr0:Kd.C (Kd.int .i64) w A0 l0.length l0)(hc0:l0.length≤c0)(h:fag.f k l0=some r) :
  Calls Try.prog 30 #[.slice A0 l0.length c0] w fun e w'=>e=.returned (.int .i64 r)∧Drawn0 w w':=by
 have HR0:=aM hr0
 have HC0:=aM hc0
 clear hr0 hc0
 have H:(if(l0.length:Int) > 6 then(some 9)else(fag.l0 k l0 (l0.length:Int) 0))=some r:=h
 clear h
 by_cases c2:(l0.length:Int) > 6
 ·rw [ip c2] at H
  have za:decide (6 < (l0.length:Int))=true:=decide_eq_true c2
  have zb:decide (6 < l0.length)=true:=decide_eq_true (by omega)
  clear c2
  obtain rfl:=Option.some.inj H
  go_enter Try.func30,Try.ntmps30
  go_wp2
  go_ret
  exact⟨pF,by repeat(first|exact Drawn0.refl _|apply Drawn0.step)⟩
 rw [iN c2] at H
 have za:decide (6 < (l0.length:Int))=false:=decide_eq_false c2
 have zb:decide (6 < l0.length)=false:=decide_eq_false (by omega)
 clear c2
 have H':=aM H
 clear H
 go_enter Try.func30,Try.ntmps30
 go_wp2
 go_loopg [11] k (fun kq v11 w'=>∃ (yb:Int),v11=.int .i64 yb∧Aside0 (fag.l0 kq l0 (l0.length:Int) yb=some r)∧Aside0 (kq≤k)∧Drawn0 w w')
 case atStart=>exact⟨(0),(pF),H',⟨Nat.le_refl _⟩,by repeat(first|exact Drawn0.refl _|apply Drawn0.step)⟩
 clear H'
 try clear za
 try clear zb
 obtain⟨yb,rfl,HA,HK1,⟨m1,rfl⟩⟩:=hrel
 cases gk with
 | zero=>exact absurd HA.out (by simp [fag.l0])
 | succ k1=>?_
 have H:=HA.out
 clear HA
 simp only [fag.l0] at H
 by_cases c3:yb < (l0.length:Int)
 ·rw [ip c3] at H
  have zc:=dT c3
  clear c3
  by_cases c4:0≤yb
  rotate_left
  ·rw [iN c4] at H
   cases H
  rw [ip c4] at H
  have c4b0:=dT c4
  clear c4
  by_cases c5:yb < (l0.length:Int)
  rotate_left
  ·rw [iN c5] at H
   cases H
  rw [ip c5] at H
  have c5b0:=dT c5
  clear c5
  by_cases c6:(rd l0 yb) < 1
  ·rw [ip c6] at H
   have yp:=dT c6
   clear c6
   obtain rfl:=Option.some.inj H
   obtain⟨yj,⟨⟩,yg,yq,yr⟩:=zI HR0.out yb
   go_wp2
   go_ret
   exact⟨pF,by repeat(first|exact Drawn0.refl _|apply Drawn0.step)⟩
  rw [iN c6] at H
  have yp:=dF c6
  clear c6
  have H':=aM H
  clear H
  obtain⟨yj,⟨⟩,yg,yq,yr⟩:=zI HR0.out yb
  go_wp2
  go_roundg k1
  case measure=>have:=HK1.out;omega
  case rel=>exact⟨(wrap64 (yb + 1)),(pF),H',⟨pO1 HK1⟩,by repeat(first|exact Drawn0.refl _|apply Drawn0.step)⟩
 rw [iN c3] at H
 have zc:=dF c3
 clear c3
 have H':=aM H
 clear H
 go_wp2
 go_loopg [4,22] k1 (fun kq v4 v22 w'=>∃ (yd:Int) (ya:Int),v4=.int .i64 yd∧v22=.int .i64 ya∧Aside0 (fag.l1 kq l0 yd (l0.length:Int) ya=some r)∧Aside0 (kq≤k1)∧Drawn0 w w')
 case atStart=>exact⟨(1),(0),(pF),(pF),H',⟨Nat.le_refl _⟩,by repeat(first|exact Drawn0.refl _|apply Drawn0.step)⟩
 clear H'
 try clear zc
 obtain⟨yd,ya,rfl,rfl,HA,HK2,⟨m2,rfl⟩⟩:=hrel
 cases gk with
 | zero=>exact absurd HA.out (by simp [fag.l1])
 | succ k2=>?_
 have H:=HA.out
 clear HA
 simp only [fag.l1] at H
 by_cases c7:ya < (l0.length:Int)
 rotate_left
 ·rw [iN c7] at H
  have ys:=dF c7
  clear c7
  obtain rfl:=Option.some.inj H
  go_wp2
  go_ret
  exact⟨pF,by repeat(first|exact Drawn0.refl _|apply Drawn0.step)⟩
 rw [ip c7] at H
 have ys:=dT c7
 clear c7
 by_cases c8:0≤ya
 rotate_left
 ·rw [iN c8] at H
  cases H
 rw [ip c8] at H
 have c8b0:=dT c8
 clear c8
 by_cases c9:ya < (l0.length:Int)
 rotate_left
 ·rw [iN c9] at H
  cases H
 rw [ip c9] at H
 have c9b0:=dT c9
 clear c9
 by_cases c10:(rd l0 ya) > 64
 ·rw [ip c10] at H
  have yk:decide (64 < (rd l0 ya))=true:=decide_eq_true c10
  clear c10
  obtain rfl:=Option.some.inj H
  obtain⟨yc,⟨⟩,ye,yl,ym⟩:=zI HR0.out ya
  go_wp2
  go_ret
  exact⟨pF,by repeat(first|exact Drawn0.refl _|apply Drawn0.step)⟩
 rw [iN c10] at H
 have yk:decide (64 < (rd l0 ya))=false:=decide_eq_false c10
 clear c10
 by_cases c11:(wrap64 (yd * (rd l0 ya))) > 64
 ·rw [ip c11] at H
  have yn:decide (64 < (wrap64 (yd * (rd l0 ya))))=true:=decide_eq_true c11
  clear c11
  obtain rfl:=Option.some.inj H
  obtain⟨yc,⟨⟩,ye,yl,ym⟩:=zI HR0.out ya
  obtain⟨yf,yi,yh,yt,yu⟩:=zI HR0.out ya
  obtain rfl:yc=yf:=(by injection yi)
  go_wp2
  go_ret
  exact⟨pF,by repeat(first|exact Drawn0.refl _|apply Drawn0.step)⟩
 rw [iN c11] at H
 have yn:decide (64 < (wrap64 (yd * (rd l0 ya))))=false:=decide_eq_false c11
 clear c11
 have H':=aM H
 clear H
 obtain⟨yc,⟨⟩,ye,yl,ym⟩:=zI HR0.out ya
 obtain⟨yf,yi,yh,yt,yu⟩:=zI HR0.out ya
 obtain rfl:yc=yf:=(by injection yi)
 obtain⟨yo,yv,hx486_0,p486,q486⟩:=zI HR0.out ya
 obtain rfl:yc=yo:=(by injection yv)
 go_wp2
 go_roundg k2
 case measure=>have:=HK1.out;have:=HK2.out;omega
 case rel=>exact⟨(wrap64 (yd * (rd l0 ya))),(wrap64 (ya + 1)),(pF),(pF),H',⟨pO2 HK1 HK2⟩,by repeat(first|exact Drawn0.refl _|apply Drawn0.step)⟩
end Go.Proofs.Ytcdiobcldhiemaa.Q
