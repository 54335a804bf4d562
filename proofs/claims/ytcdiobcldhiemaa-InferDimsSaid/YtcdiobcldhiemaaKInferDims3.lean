/- Texts of the proof of InferDims, part 3: what functions of the program compute, and that they compute it. -/
import Derived.Test.YtcdiobcldhiemaaKInferDimsW
import Derived.Test.YtcdiobcldhiemaaKInferDims2
set_option maxHeartbeats 8000000
set_option maxRecDepth 100000
namespace Go.Proofs.Ytcdiobcldhiemaa.Q
open Go.RowKit Go.Proofs.YtcdiobcldhiemaaW.PrintWords Go.Proofs.YtcdiobcldhiemaaW.PrintLast Go.Proofs.YtcdiobcldhiemaaW.PrintMore
attribute [local go_sem] max2_int min2_int max_two min_two max_three min_three max_four min_four   -- for this text's walks alone
set_option linter.unusedVariables false
set_option linter.unusedSimpArgs false
mutual
def fbi.l0:Nat→List Int→List Int→Int→Int→Int→Int→Int→Int→Int→Int→Int→Int→Bool→List Int→Option (List Int×List Int×List Int×Int)
 | 0,_,_,_,_,_,_,_,_,_,_,_,_,_,_=>none
 | k+1,x0,x6,x38,x39,zs,z0,z5,z6,z7,z8,z9,zaa,zab,zv=>if x39<x38 then(if 0≤x39 then(if x39<(zv.length:Int)then(if(rd zv x39)<0 then(some (([]:List Int),([]:List Int),([]:List Int),11))else(if(rd zv x39) ≥ z0 then(some (([]:List Int),([]:List Int),([]:List Int),11))else(fbi.l0 k x0 x6 x38 (wrap64 (x39+1)) zs z0 z5 z6 z7 z8 z9 zaa zab zv)))else(none))else(none))else((fan.f k x0).bind fun zm=>(fbi.l1 k x0 zm (zm.length:Int) 0 zs z0 z5 z6 z7 z8 z9 zaa zab zv x6 ([]:List Int)))
def fbi.l1:Nat→List Int→List (List Int)→Int→Int→Int→Int→Int→Int→Int→Int→Int→Int→Bool→List Int→List Int→List Int→Option (List Int×List Int×List Int×Int)
 | 0,_,_,_,_,_,_,_,_,_,_,_,_,_,_,_,_=>none
 | k+1,x0,x10,x65,x66,zs,z0,z5,z6,z7,z8,z9,zaa,zab,zv,zae,zaf=>if x66<x65 then((some (([]:List Int):List Int)).bind fun zag=>(if 0≤x66 then(if x66<(x10.length:Int)then(if zag.length+(rd_L1 x10 x66).length<17592186044416 then((some (zag++(rd_L1 x10 x66):List Int)).bind fun zg=>(if 0≤zs then(if zs<(zg.length:Int)then(if 0≤(rd zg zs)then(if(rd zg zs)<(zv.length:Int)then((fao.f k zae (zg.set (zs:Int).toNat (rd zv (rd zg zs)))).bind fun z4=>(if zaf.length<17592186044416 then(fbi.l1 k x0 x10 x65 (wrap64 (x66+1)) zs z0 z5 z6 z7 z8 z9 zaa zab zv zae (zaf++[z4]))else(none)))else(none))else(none))else(none))else(none)))else(none))else(none))else(none)))else(some (zae,([]:List Int),zaf,0))
end
def fbi.f (k:Nat) (l0:List Int)(ya ye yg yh yi yj yk yl:Int)(ym:Bool)(yb:List Int):Option (List Int×List Int×List Int×Int):=(fam.f k l0 ya ye).bind fun bt526=>(if bt526.2=0 then(if 0≤ya then(if ya<(l0.length:Int)then(if(yb.length:Int)=(rd l0 ya)then(fbi.l0 k l0 bt526.1 (yb.length:Int) 0 ya ye yg yh yi yj yk yl ym yb)else(some (([]:List Int),([]:List Int),([]:List Int),8)))else(none))else(none))else(some (([]:List Int),([]:List Int),([]:List Int),bt526.2)))
def fbi.T4:TT:=(true,[([],[]),([0],[0]),([1],[1]),([],[]),([],[]),([4],[4]),([3,5],[3,5]),([6],[6]),([2,7],[2,7])])
def fbi.B4:List Nat:=[0,1,3,0,0,16,56,120,255]
theorem fbi.tab4:rtab .any (opsOf Try.f36 4)=fbi.T4:=by kernel_rfl
theorem fbi.bits4:waitsOk fbi.T4.2 fbi.B4=true:=by kernel_rfl
def fbi.T9:TT:=(true,[([],[]),([0],[0]),([],[]),([1,2],[1,2]),([3],[3]),([4],[4]),([5],[5]),([6],[6]),([7,6],[6,7]),([6],[6]),([8,9,6],[6,8,9]),([10,6],[6,10]),([6],[6]),([12,6],[6,12]),([11,13,6],[6,11,13]),([6,14],[6,14])])
def fbi.B9:List Nat:=[0,1,0,7,15,31,63,127,255,127,1023,2047,127,4223,16383,32767]
theorem fbi.tab9:rtab .any (opsOf Try.f36 9)=fbi.T9:=by kernel_rfl
theorem fbi.bits9:waitsOk fbi.T9.2 fbi.B9=true:=by kernel_rfl
def fbi.T18:TT:=(true,[([],[]),([],[]),([1],[1]),([],[]),([3],[3]),([],[]),([],[]),([6],[6]),([5,7],[5,7]),([8],[8]),([4,9],[4,9]),([10],[10]),([0,2,0,1,2,3,4,5,6,7,8,9,10,11],[0,2]),([12,11,0,1,2,3,4,5,6,7,8,9,10,11],[11,12])])
def fbi.B18:List Nat:=[0,0,2,0,8,0,0,64,224,480,1016,2040,4095,8191]
theorem fbi.tab18:rtab .any (opsOf Try.f36 18)=fbi.T18:=by kernel_rfl
theorem fbi.bits18:waitsOk fbi.T18.2 fbi.B18=true:=by kernel_rfl
def fbi.T19:TT:=(true,[([],[]),([0],[0]),([],[]),([],[]),([2,3],[2,3]),([4],[4]),([1,5,4],[1,5]),([0,1,2,3,4,5,6],[]),([7,6,6,0,1,2,3,4,5,6],[6,7])])
def fbi.B19:List Nat:=[0,1,0,0,12,28,63,127,255]
theorem fbi.tab19:rtab .any (opsOf Try.f36 19)=fbi.T19:=by kernel_rfl
theorem fbi.bits19:waitsOk fbi.T19.2 fbi.B19=true:=by kernel_rfl
theorem fbi.calls (k:Nat)(A0:Option Addr)(c0:Nat)(l0:List Int)(ya ye yg yh yi yj yk yl:Int)(ym:Bool)(yu:Option Addr)(yq:Nat)(yb r1 r2 r3:List Int)(r4:Int)(w:World)(hr0:Kd.C (Kd.int .i64) w A0 l0.length l0)(hc0:l0.length≤c0)(y7:Kd.C (Kd.int .i64) w yu yb.length yb)(y8:yb.length≤yq)(h:fbi.f k l0 ya ye yg yh yi yj yk yl ym yb=some (r1,r2,r3,r4)) :
  Calls Try.prog 36 #[.slice A0 l0.length c0,.agg #[.int .i64 ya,.int .i64 ye,.int .i64 yg,.int .i64 yh,.int .i64 yi,.int .i64 yj,.int .i64 yk,.int .i64 yl,.bool ym,.slice yu yb.length yq]] w fun e w'=>∃ v0_ v1_ v2_:Value,e=.returned (.tuple #[.agg #[v0_,v1_,v2_],.int .i64 r4])∧Kd.R (Kd.int .i64) 3 w' w.heap.size (fun k_=>some k_≠(v1_:Value).ownBlock∧some k_≠(v2_:Value).ownBlock) v0_ r1∧Kd.R (Kd.int .i64) 3 w' w.heap.size (fun k_=>some k_≠(v0_:Value).ownBlock∧some k_≠(v2_:Value).ownBlock) v1_ r2∧Kd.R (Kd.int .i64) 3 w' w.heap.size (fun k_=>some k_≠(v0_:Value).ownBlock∧some k_≠(v1_:Value).ownBlock) v2_ r3∧Below w.heap.size w w':=by
 have hu24:=Try.underlying24
 have hu32:=Try.underlying32
 have HR0:=aM hr0
 have HC0:=aM hc0
 clear hr0 hc0
 have zad:=aM y7
 have HC1_9:=aM y8
 clear y7 y8
 have HB:=aM (Below.refl w.heap.size w)
 have H:((fam.f k l0 ya ye).bind fun bt526=>(if bt526.2=0 then(if 0≤ya then(if ya<(l0.length:Int)then(if(yb.length:Int)=(rd l0 ya)then(fbi.l0 k l0 bt526.1 (yb.length:Int) 0 ya ye yg yh yi yj yk yl ym yb)else(some (([]:List Int),([]:List Int),([]:List Int),8)))else(none))else(none))else(some (([]:List Int),([]:List Int),([]:List Int),bt526.2))))=some (r1,r2,r3,r4):=h
 clear h
 replace H:=oB H
 obtain⟨⟨zk,zah⟩,A30,H⟩:=H
 try dsimp only at H
 have A3:=aM A30
 clear A30
 by_cases c4:zah=0
 rotate_left
 ·rw[iN c4] at H
  have za0:=bF c4
  have za1:=nT c4
  replace H:=oi4 H
  obtain⟨rfl,rfl,rfl,rfl⟩:=H
  go_enter Try.func36,Try.ntmps36
  go_wp2_with (first|((with_reducible refine gD 3 rfl ?_);refine bX 3 24 (aT ya ye yg yh yi yj yk yl ym yu yb.length yq) ?_;intro zb hg w72 hbox hb;have za:=aM (hbox);have zai:=gE (w:=w) hg (qB HB);have zh:=zai;replace HB:=bS (qB HB) hb;clear hb hbox hg)|((with_reducible refine gD 4 rfl ?_);refine bX 4 32 #[.slice none 0 0,.slice none 0 0,.slice none 0 0] ?_;intro zn hg w73 hbox hb;have zc:=aM (hbox);have zaj:=gE (w:=w) hg (qB1 HB zh);have zj:=zaj;replace HB:=bS (qB1 HB zh) hb;have zq:=nL hg za;have zr:=nG hg za;replace za:=bK za hb;clear hb hbox hg;have hnb74:=zq.out;have hnc74:=zr.out;have hcz75:=blk10 za.out)|((with_reducible refine gC 63 rfl ?_);refine gL 19 Try.func63 #[.slice A0 l0.length c0,.int .i64 ya,.int .i64 ye] ?_;(with_reducible refine(fam.calls k _ _ l0 ya ye zk zah _ ?s1 HC0.out A3.out).mono ?_);(case s1=>exact sC HR0 HB);rintro e w76 ⟨zaz,rfl,ho0,hb⟩;refine⟨_,rfl,?_⟩;have z1:=aM (Kd.R_lower ho0 (below_size (qB2 HB zh zj)));replace za:=bK za hb;replace zc:=bK zc hb;replace HB:=bS (qB2 HB zh zj) hb;have hcz77:=blk3 zc.out))
  refine bodyPost_ret (results_ct rfl _ _ zn 32 #[.slice none 0 0,.slice none 0 0,.slice none 0 0] (0,0) _ rfl (by exact P3 zc) Try.underlying32 rfl (by kernel_rfl)) rfl ?_
  exact⟨_,_,_,pE,pN,pN,pN,qB2 HB zh zj⟩
 rw[ip c4] at H
 have za0:=bT c4
 have za1:=nF c4
 clear c4
 by_cases c5:0≤ya
 rotate_left
 ·rw[iN c5] at H
  cases H
 rw[ip c5] at H
 have yar:=dT c5
 clear c5
 by_cases c6:ya<(l0.length:Int)
 rotate_left
 ·rw[iN c6] at H
  cases H
 rw[ip c6] at H
 have yas:=dT c6
 clear c6
 by_cases c7:(yb.length:Int)=(rd l0 ya)
 rotate_left
 ·rw[iN c7] at H
  have za2:=bF c7
  have za3:=nT c7
  replace H:=oi4 H
  obtain⟨rfl,rfl,rfl,rfl⟩:=H
  go_enter Try.func36,Try.ntmps36
  try go_wp2_with (first|((with_reducible refine gD 3 rfl ?_);refine bX 3 24 (aT ya ye yg yh yi yj yk yl ym yu yb.length yq) ?_;intro zb hg w65 hbox hb;have za:=aM (hbox);have zai:=gE (w:=w) hg (qB HB);have zh:=zai;replace HB:=bS (qB HB) hb;clear hb hbox hg)|((with_reducible refine gD 4 rfl ?_);refine bX 4 32 #[.slice none 0 0,.slice none 0 0,.slice none 0 0] ?_;intro zn hg w66 hbox hb;have zc:=aM (hbox);have zaj:=gE (w:=w) hg (qB1 HB zh);have zj:=zaj;replace HB:=bS (qB1 HB zh) hb;have zq:=nL hg za;have zr:=nG hg za;replace za:=bK za hb;clear hb hbox hg;have hnb67:=zq.out;have hnc67:=zr.out;have hcz68:=blk10 za.out)|((with_reducible refine gC 63 rfl ?_);refine gL 19 Try.func63 #[.slice A0 l0.length c0,.int .i64 ya,.int .i64 ye] ?_;(with_reducible refine(fam.calls k _ _ l0 ya ye zk zah _ ?s1 HC0.out A3.out).mono ?_);(case s1=>exact sC HR0 HB);rintro e w69 ⟨zaz,rfl,ho0,hb⟩;refine⟨_,rfl,?_⟩;have z1:=aM (Kd.R_lower ho0 (below_size (qB2 HB zh zj)));replace za:=bK za hb;replace zc:=bK zc hb;replace HB:=bS (qB2 HB zh zj) hb))
  replace z1:=aM (Kd.R_drew z1.out)
  replace za:=aM (blk_drew za.out)
  replace zc:=aM (blk_drew zc.out)
  replace HB:=aM (below_drew1 HB.out)
  obtain⟨yx,⟨⟩,yr,yaf,yag⟩:=zI HR0.out ya
  have yt:=zW HB yr
  refine sT 9 [] (fun w'=>w'.cell? ⟨zb,0,none⟩=some (.int .i64 ya)∧w'.cell? ⟨zb,1,none⟩=some (.int .i64 ye)∧w'.cell? ⟨zb,2,none⟩=some (.int .i64 yg)∧w'.cell? ⟨zb,3,none⟩=some (.int .i64 yh)∧w'.cell? ⟨zb,4,none⟩=some (.int .i64 yi)∧w'.cell? ⟨zb,5,none⟩=some (.int .i64 yj)∧w'.cell? ⟨zb,6,none⟩=some (.int .i64 yk)∧w'.cell? ⟨zb,7,none⟩=some (.int .i64 yl)∧w'.cell? ⟨zb,8,none⟩=some (.bool ym)∧w'.cell? ⟨zb,9,none⟩=some (.slice yu yb.length yq)∧w'.cell? (yx.add (ya).toNat)=some (.int .i64 (rd l0 ya))) fbi.tab4 fbi.bits4 (c10 za (zW HB yr)) (fun hHeld HT_ HW_=>?_)
  generalize w69.drew=w70 at z1 za zc HB yt hHeld ⊢
  refine pQ 0 26 9 1 HT_ ?_
  refine pQ 3 29 9 9 HT_ ?_
  refine pQ 4 30 9 25 HT_ ?_
  refine pU11 1 27 9 27 HT_ HW_ hHeld ?_
  refine pQ 2 28 9 31 HT_ ?_
  refine pU11 5 31 9 63 HT_ HW_ hHeld ?_
  refine pQ 6 32 9 127 HT_ ?_
  refine pU11 7 33 9 255 HT_ HW_ hHeld ?_
  refine pQ 8 34 9 511 HT_ ?_
  refine dN HT_ ?_
  have hcz71:=blk3 zc.out
  try go_wp2
  refine bodyPost_ret (results_ct rfl _ _ zn 32 #[.slice none 0 0,.slice none 0 0,.slice none 0 0] (0,0) _ rfl (by exact P3 zc) Try.underlying32 rfl (by kernel_rfl)) rfl ?_
  exact⟨_,_,_,pE,pN,pN,pN,qB2 HB zh zj⟩
 rw[ip c7] at H
 have za2:=bT c7
 have za3:=nF c7
 clear c7
 have H':=aM H
 clear H
 go_enter Try.func36,Try.ntmps36
 try go_wp2_with (first|((with_reducible refine gD 3 rfl ?_);refine bX 3 24 (aT ya ye yg yh yi yj yk yl ym yu yb.length yq) ?_;intro zb hg w8 hbox hb;have za:=aM (hbox);have zai:=gE (w:=w) hg (qB HB);have zh:=zai;replace HB:=bS (qB HB) hb;clear hb hbox hg)|((with_reducible refine gD 4 rfl ?_);refine bX 4 32 #[.slice none 0 0,.slice none 0 0,.slice none 0 0] ?_;intro zn hg w9 hbox hb;have zc:=aM (hbox);have zaj:=gE (w:=w) hg (qB1 HB zh);have zj:=zaj;replace HB:=bS (qB1 HB zh) hb;have zq:=nL hg za;have zr:=nG hg za;replace za:=bK za hb;clear hb hbox hg;have hnb10:=zq.out;have hnc10:=zr.out;have yah:=blk10 za.out)|((with_reducible refine gC 63 rfl ?_);refine gL 19 Try.func63 #[.slice A0 l0.length c0,.int .i64 ya,.int .i64 ye] ?_;(with_reducible refine(fam.calls k _ _ l0 ya ye zk zah _ ?s1 HC0.out A3.out).mono ?_);(case s1=>exact sC HR0 HB);rintro e w12 ⟨zaz,rfl,ho0,hb⟩;refine⟨_,rfl,?_⟩;have z1:=aM (Kd.R_lower ho0 (below_size (qB2 HB zh zj)));replace za:=bK za hb;replace zc:=bK zc hb;replace HB:=bS (qB2 HB zh zj) hb))
 replace z1:=aM (Kd.R_drew z1.out)
 replace za:=aM (blk_drew za.out)
 replace zc:=aM (blk_drew zc.out)
 replace HB:=aM (below_drew1 HB.out)
 obtain⟨yx,⟨⟩,yr,yaf,yag⟩:=zI HR0.out ya
 have yt:=zW HB yr
 refine sT 9 [] (fun w'=>w'.cell? ⟨zb,0,none⟩=some (.int .i64 ya)∧w'.cell? ⟨zb,1,none⟩=some (.int .i64 ye)∧w'.cell? ⟨zb,2,none⟩=some (.int .i64 yg)∧w'.cell? ⟨zb,3,none⟩=some (.int .i64 yh)∧w'.cell? ⟨zb,4,none⟩=some (.int .i64 yi)∧w'.cell? ⟨zb,5,none⟩=some (.int .i64 yj)∧w'.cell? ⟨zb,6,none⟩=some (.int .i64 yk)∧w'.cell? ⟨zb,7,none⟩=some (.int .i64 yl)∧w'.cell? ⟨zb,8,none⟩=some (.bool ym)∧w'.cell? ⟨zb,9,none⟩=some (.slice yu yb.length yq)∧w'.cell? (yx.add (ya).toNat)=some (.int .i64 (rd l0 ya))) fbi.tab4 fbi.bits4 (c10 za (zW HB yr)) (fun hHeld HT_ HW_=>?_)
 generalize w12.drew=w13 at z1 za zc HB yt hHeld ⊢
 refine pQ 0 26 9 1 HT_ ?_
 refine pQ 3 29 9 9 HT_ ?_
 refine pQ 4 30 9 25 HT_ ?_
 refine pU11 1 27 9 27 HT_ HW_ hHeld ?_
 refine pQ 2 28 9 31 HT_ ?_
 refine pU11 5 31 9 63 HT_ HW_ hHeld ?_
 refine pQ 6 32 9 127 HT_ ?_
 refine pU11 7 33 9 255 HT_ HW_ hHeld ?_
 refine pQ 8 34 9 511 HT_ ?_
 refine dN HT_ ?_
 have yai:=blk10 za.out
 try go_wp2
 go_loopg [39] k (fun kq v39 w'=>∃ (yc:Int),v39=.int .i64 yc∧Aside0 (fbi.l0 kq l0 zk (yb.length:Int) yc ya ye yg yh yi yj yk yl ym yb=some (r1,r2,r3,r4))∧Aside0 (kq≤k)∧Aside0 (Kd.R (Kd.int .i64) 3 w' w.heap.size (fun _=>True) zaz zk)∧Aside0 (w'.heap[zb]?=some (.cells (aT ya ye yg yh yi yj yk yl ym yu yb.length yq) 24 (0,0)))∧Aside0 (w'.heap[zn]?=some (.cells #[(.slice none 0 0),(.slice none 0 0),(.slice none 0 0)] 32 (0,0)))∧Aside0 (Below w.heap.size w w'))
 case atStart=>exact⟨(0),(pF),H',⟨Nat.le_refl _⟩,⟨pR z1.out⟩,⟨pK za.out⟩,⟨pK zc.out⟩,⟨qB2 HB zh zj⟩⟩
 clear H'
 try clear za0
 try clear za1
 try clear yar
 try clear yas
 try clear za2
 try clear za3
 try clear yah yai
 try clear yt
 try clear yaf
 try clear yag
 obtain⟨yc,rfl,HA,HK1,zz,za,zc,HB⟩:=hrel
 cases gk with
 | zero=>exact absurd HA.out (by simp[fbi.l0])
 | succ k1=>?_
 have H:=HA.out
 clear HA
 simp only[fbi.l0] at H
 by_cases c15:yc<(yb.length:Int)
 ·rw[ip c15] at H
  have zav:=dT c15
  clear c15
  by_cases c16:0≤yc
  rotate_left
  ·rw[iN c16] at H
   cases H
  rw[ip c16] at H
  have c16b0:=dT c16
  clear c16
  by_cases c17:yc<(yb.length:Int)
  rotate_left
  ·rw[iN c17] at H
   cases H
  rw[ip c17] at H
  have c17b0:=dT c17
  clear c17
  by_cases c18:(rd yb yc)<0
  ·rw[ip c18] at H
   have yaj:=dT c18
   clear c18
   replace H:=oi4 H
   obtain⟨rfl,rfl,rfl,rfl⟩:=H
   try go_wp2
   replace zz:=aM (Kd.R_drew zz.out)
   replace za:=aM (blk_drew za.out)
   replace zc:=aM (blk_drew zc.out)
   replace HB:=aM (below_drew1 HB.out)
   obtain⟨yp,⟨⟩,yo,yak,yal⟩:=zI zad.out yc
   have ys:=zW HB yo
   refine sT 16 [] (fun w'=>w'.cell? ⟨zb,0,none⟩=some (.int .i64 ya)∧w'.cell? ⟨zb,1,none⟩=some (.int .i64 ye)∧w'.cell? ⟨zb,2,none⟩=some (.int .i64 yg)∧w'.cell? ⟨zb,3,none⟩=some (.int .i64 yh)∧w'.cell? ⟨zb,4,none⟩=some (.int .i64 yi)∧w'.cell? ⟨zb,5,none⟩=some (.int .i64 yj)∧w'.cell? ⟨zb,6,none⟩=some (.int .i64 yk)∧w'.cell? ⟨zb,7,none⟩=some (.int .i64 yl)∧w'.cell? ⟨zb,8,none⟩=some (.bool ym)∧w'.cell? ⟨zb,9,none⟩=some (.slice (some yp) yb.length yq)∧w'.cell? (yp.add (yc).toNat)=some (.int .i64 (rd yb yc))) fbi.tab9 fbi.bits9 (c10 za (zW HB yo)) (fun hHeld HT_ HW_=>?_)
   generalize wr.drew=w19 at zz za zc HB ys hHeld ⊢
   refine pQ 0 42 16 1 HT_ ?_
   refine pQ 2 44 16 5 HT_ ?_
   refine pU11 1 43 16 7 HT_ HW_ hHeld ?_
   refine pQ 3 45 16 15 HT_ ?_
   refine pU11 4 46 16 31 HT_ HW_ hHeld ?_
   refine pQ 5 47 16 63 HT_ ?_
   refine pQ 6 48 16 127 HT_ ?_
   refine pX 7 49 16 255 HT_ ?_
   refine pX 8 50 16 511 HT_ ?_
   refine pX 9 51 16 1023 HT_ ?_
   refine pX 10 52 16 2047 HT_ ?_
   refine pX 11 53 16 4095 HT_ ?_
   refine pX 12 54 16 8191 HT_ ?_
   refine pX 13 55 16 16383 HT_ ?_
   refine pX 14 56 16 32767 HT_ ?_
   refine pQ 15 57 16 65535 HT_ ?_
   refine dN HT_ ?_
   have hnb20:=zr.out
   have hnc20:=zq.out
   have hcz21:=blk3 zc.out
   try go_wp2
   refine bodyPost_ret (results_ct rfl _ _ zn 32 #[.slice none 0 0,.slice none 0 0,.slice none 0 0] (0,0) _ rfl (by exact P3 zc) Try.underlying32 rfl (by kernel_rfl)) rfl ?_
   exact⟨_,_,_,pE,pN,pN,pN,qB2 HB zh zj⟩
  rw[iN c18] at H
  have yaj:=dF c18
  clear c18
  by_cases c22:(rd yb yc) ≥ ye
  rotate_left
  ·rw[iN c22] at H
   have yam:decide (ye≤(rd yb yc))=false:=decide_eq_false c22
   clear c22
   have H':=aM H
   clear H
   try go_wp2
   replace zz:=aM (Kd.R_drew zz.out)
   replace za:=aM (blk_drew za.out)
   replace zc:=aM (blk_drew zc.out)
   replace HB:=aM (below_drew1 HB.out)
   obtain⟨yp,⟨⟩,yo,yak,yal⟩:=zI zad.out yc
   have ys:=zW HB yo
   obtain⟨y2,y9,yn,yat,yau⟩:=zI zad.out yc
   have yv:=yn
   obtain rfl:yp=y2:=(by injection y9)
   replace yn:=zW HB yn
   refine sT 16 [] (fun w'=>w'.cell? ⟨zb,0,none⟩=some (.int .i64 ya)∧w'.cell? ⟨zb,1,none⟩=some (.int .i64 ye)∧w'.cell? ⟨zb,2,none⟩=some (.int .i64 yg)∧w'.cell? ⟨zb,3,none⟩=some (.int .i64 yh)∧w'.cell? ⟨zb,4,none⟩=some (.int .i64 yi)∧w'.cell? ⟨zb,5,none⟩=some (.int .i64 yj)∧w'.cell? ⟨zb,6,none⟩=some (.int .i64 yk)∧w'.cell? ⟨zb,7,none⟩=some (.int .i64 yl)∧w'.cell? ⟨zb,8,none⟩=some (.bool ym)∧w'.cell? ⟨zb,9,none⟩=some (.slice (some yp) yb.length yq)∧w'.cell? (yp.add (yc).toNat)=some (.int .i64 (rd yb yc))∧w'.cell? (yp.add (yc).toNat)=some (.int .i64 (rd yb yc))) fbi.tab9 fbi.bits9 (c10 za ⟨(zW HB yo),(zW HB yv)⟩) (fun hHeld HT_ HW_=>?_)
   generalize wr.drew=w26 at zz za zc HB ys yn hHeld ⊢
   refine pQ 0 42 16 1 HT_ ?_
   refine pQ 2 44 16 5 HT_ ?_
   refine pU12 1 43 16 7 HT_ HW_ hHeld ?_
   refine pQ 3 45 16 15 HT_ ?_
   refine pU12 4 46 16 31 HT_ HW_ hHeld ?_
   refine pQ 5 47 16 63 HT_ ?_
   refine pQ 6 48 16 127 HT_ ?_
   refine pQ 7 49 16 255 HT_ ?_
   refine pQ 9 51 16 767 HT_ ?_
   refine pQ 12 54 16 4863 HT_ ?_
   refine pU12 8 50 16 5119 HT_ HW_ hHeld ?_
   refine pQ 10 52 16 6143 HT_ ?_
   refine pU12 11 53 16 8191 HT_ HW_ hHeld ?_
   refine pU12 13 55 16 16383 HT_ HW_ hHeld ?_
   refine pQ 14 56 16 32767 HT_ ?_
   refine pQ 15 57 16 65535 HT_ ?_
   refine dN HT_ ?_
   try go_wp2
   go_roundg k1
   case measure=>have:=HK1.out;omega
   case rel=>exact⟨(wrap64 (yc+1)),(pF),H',⟨pO1 HK1⟩,⟨pR zz.out⟩,⟨pK za.out⟩,⟨pK zc.out⟩,⟨qB2 HB zh zj⟩⟩
  rw[ip c22] at H
  have yam:decide (ye≤(rd yb yc))=true:=decide_eq_true c22
  clear c22
  replace H:=oi4 H
  obtain⟨rfl,rfl,rfl,rfl⟩:=H
  try go_wp2
  replace zz:=aM (Kd.R_drew zz.out)
  replace za:=aM (blk_drew za.out)
  replace zc:=aM (blk_drew zc.out)
  replace HB:=aM (below_drew1 HB.out)
  obtain⟨yp,⟨⟩,yo,yak,yal⟩:=zI zad.out yc
  have ys:=zW HB yo
  obtain⟨y2,y9,yn,yat,yau⟩:=zI zad.out yc
  have yv:=yn
  obtain rfl:yp=y2:=(by injection y9)
  replace yn:=zW HB yn
  refine sT 16 [] (fun w'=>w'.cell? ⟨zb,0,none⟩=some (.int .i64 ya)∧w'.cell? ⟨zb,1,none⟩=some (.int .i64 ye)∧w'.cell? ⟨zb,2,none⟩=some (.int .i64 yg)∧w'.cell? ⟨zb,3,none⟩=some (.int .i64 yh)∧w'.cell? ⟨zb,4,none⟩=some (.int .i64 yi)∧w'.cell? ⟨zb,5,none⟩=some (.int .i64 yj)∧w'.cell? ⟨zb,6,none⟩=some (.int .i64 yk)∧w'.cell? ⟨zb,7,none⟩=some (.int .i64 yl)∧w'.cell? ⟨zb,8,none⟩=some (.bool ym)∧w'.cell? ⟨zb,9,none⟩=some (.slice (some yp) yb.length yq)∧w'.cell? (yp.add (yc).toNat)=some (.int .i64 (rd yb yc))∧w'.cell? (yp.add (yc).toNat)=some (.int .i64 (rd yb yc))) fbi.tab9 fbi.bits9 (c10 za ⟨(zW HB yo),(zW HB yv)⟩) (fun hHeld HT_ HW_=>?_)
  generalize wr.drew=w23 at zz za zc HB ys yn hHeld ⊢
  refine pQ 0 42 16 1 HT_ ?_
  refine pQ 2 44 16 5 HT_ ?_
  refine pU12 1 43 16 7 HT_ HW_ hHeld ?_
  refine pQ 3 45 16 15 HT_ ?_
  refine pU12 4 46 16 31 HT_ HW_ hHeld ?_
  refine pQ 5 47 16 63 HT_ ?_
  refine pQ 6 48 16 127 HT_ ?_
  refine pQ 7 49 16 255 HT_ ?_
  refine pQ 9 51 16 767 HT_ ?_
  refine pQ 12 54 16 4863 HT_ ?_
  refine pU12 8 50 16 5119 HT_ HW_ hHeld ?_
  refine pQ 10 52 16 6143 HT_ ?_
  refine pU12 11 53 16 8191 HT_ HW_ hHeld ?_
  refine pU12 13 55 16 16383 HT_ HW_ hHeld ?_
  refine pQ 14 56 16 32767 HT_ ?_
  refine pQ 15 57 16 65535 HT_ ?_
  refine dN HT_ ?_
  have hnb24:=zr.out
  have hnc24:=zq.out
  have hcz25:=blk3 zc.out
  try go_wp2
  refine bodyPost_ret (results_ct rfl _ _ zn 32 #[.slice none 0 0,.slice none 0 0,.slice none 0 0] (0,0) _ rfl (by exact P3 zc) Try.underlying32 rfl (by kernel_rfl)) rfl ?_
  exact⟨_,_,_,pE,pN,pN,pN,qB2 HB zh zj⟩
 rw[iN c15] at H
 have zav:=dF c15
 clear c15
 replace H:=oB H
 obtain⟨zm,za4,H⟩:=H
 try dsimp only at H
 have A27:=aM za4
 clear za4
 have H':=aM H
 clear H
 obtain⟨zt,zu,yav⟩:=Kd.R_slice zz.out
 subst yav
 go_wp2_with (first|((with_reducible refine gD 9 rfl ?_);refine bX 9 32 #[.slice none 0 0,.slice none 0 0,.slice none 0 0] ?_;intro zo hg w29 hbox hb;replace zz:=bR zz hb;have zf:=aM (hbox);have GW533:=gE (w:=w) hg (qB2 HB zh zj);have zy:=GW533;replace HB:=bS (qB2 HB zh zj) hb;have zw:=nL hg za;have z2:=nG hg za;replace za:=bK za hb;have zx:=nL hg zc;have z3:=nG hg zc;replace zc:=bK zc hb;clear hb hbox hg;have hnb30:=z2.out;have hnc30:=zw.out;have hnb31:=z3.out;have hnc31:=zx.out;have yan:=blk3 zf.out)|((with_reducible refine gC 48 rfl ?_);refine gL 63 Try.func48 #[.slice (some yx) l0.length c0] ?_;(with_reducible refine(fan.calls k1 _ _ l0 zm _ ?s1 HC0.out A27.out).mono ?_);(case s1=>exact Kd.C_below HR0.out (qB3 HB zh zj zy));rintro e w33 ⟨v535,rfl,ho0,hb⟩;refine⟨_,rfl,?_⟩;have zaw:=aM (Kd.N_lower (Kd.N_mono (ok':=fun k_=>some k_≠(.slice zt zk.length zu:Value).ownBlock∧k_≠zb∧k_≠zn∧k_≠zo) ho0 (fun k_ hk_=>⟨(Kd.fresh' (Kd.R_lt (by(with_reducible repeat(first|apply rA|apply rN|apply rD));exact(F3 zz zf (fun _ h_=>h_.1)))) k_ hk_),(Kd.freshB (g:=zb) (o:=.cells (aT ya ye yg yh yi yj yk yl ym yu yb.length yq) 24 (0,0)) (by refine B3 zw ?_;exact za.out) k_ hk_),(Kd.freshB (g:=zn) (o:=.cells #[.slice none 0 0,.slice none 0 0,.slice none 0 0] 32 (0,0)) (by refine B3 zx ?_;exact zc.out) k_ hk_),(Kd.freshB (g:=zo) (o:=.cells #[.slice zt zk.length zu,.slice none 0 0,.slice none 0 0] 32 (0,0)) (by exact P3 zf) k_ hk_)⟩)) (below_size (qB3 HB zh zj zy)));replace zz:=aM (Kd.R_below (by(with_reducible repeat(first|apply rA|apply rN|apply rD));exact(F3 zz zf (fun _ h_=>h_.1))) hb);replace za:=aM (blk_below (g:=zb) (o:=.cells (aT ya ye yg yh yi yj yk yl ym yu yb.length yq) 24 (0,0)) (by refine B3 zw ?_;exact za.out) hb);replace zc:=aM (blk_below (g:=zn) (o:=.cells #[.slice none 0 0,.slice none 0 0,.slice none 0 0] 32 (0,0)) (by refine B3 zx ?_;exact zc.out) hb);replace zf:=aM (blk_below (g:=zo) (o:=.cells #[.slice zt zk.length zu,.slice none 0 0,.slice none 0 0] 32 (0,0)) (by exact P3 zf) hb);replace HB:=bS (qB3 HB zh zj zy) hb;obtain⟨yaw,zao,yax⟩:=Kd.N_slice zaw.out;subst yax))
 go_loopg [66] k1 (fun kq v66 w'=>∃ (yd:Int) (zi:List Int) (u534002:Value),v66=.int .i64 yd∧Aside0 (fbi.l1 kq l0 zm (zm.length:Int) yd ya ye yg yh yi yj yk yl ym yb zk zi=some (r1,r2,r3,r4))∧Aside0 (kq≤k1)∧Aside0 (Kd.N (Kd.slice 3 (Kd.int .i64)) 22 w' w.heap.size (fun k_=>some k_≠((.slice zt zk.length zu):Value).ownBlock∧some k_≠(u534002:Value).ownBlock∧k_≠zb∧k_≠zn∧k_≠zo) (.slice yaw zm.length zao) zm)∧Aside0 (Kd.R (Kd.int .i64) 3 w' w.heap.size (fun k_=>some k_≠(u534002:Value).ownBlock) (.slice zt zk.length zu) zk)∧Aside0 (Kd.R (Kd.int .i64) 3 w' w.heap.size (fun k_=>some k_≠((.slice zt zk.length zu):Value).ownBlock) u534002 zi)∧Aside0 (w'.heap[zb]?=some (.cells (aT ya ye yg yh yi yj yk yl ym yu yb.length yq) 24 (0,0)))∧Aside0 (w'.heap[zn]?=some (.cells #[(.slice none 0 0),(.slice none 0 0),(.slice none 0 0)] 32 (0,0)))∧Aside0 (w'.heap[zo]?=some (.cells #[(.slice zt zk.length zu),(.slice none 0 0),u534002] 32 (0,0)))∧Aside0 (Below w.heap.size w w'))
 case atStart=>exact⟨(0),(([]:List Int)),(.slice none 0 0),(pF),H',⟨Nat.le_refl _⟩,⟨by(with_reducible repeat(first|apply Kd.N_alloc|apply Kd.N_drewN|apply Kd.N_drew));exact Kd.N_mono zaw.out (fun _ hk=>⟨hk.1,⟨(by simp[Value.ownBlock]),⟨hk.2.1,⟨hk.2.2.1,hk.2.2.2⟩⟩⟩⟩)⟩,⟨by(with_reducible repeat(first|apply rA|apply rN|apply rD));exact Kd.R_mono zz.out (fun _ hk=>(by simp[Value.ownBlock]))⟩,⟨pN⟩,⟨pK za.out⟩,⟨pK zc.out⟩,⟨pK zf.out⟩,⟨qB3 HB zh zj zy⟩⟩
 clear H'
 try clear zav
 try clear yan
 obtain⟨yd,zi,u534002,rfl,HA,HK2,zp,zd,ze,za,zc,zf,HB⟩:=hrel
 cases gk with
 | zero=>exact absurd HA.out (by simp[fbi.l1])
 | succ k2=>?_
 have H:=HA.out
 clear HA
 simp only[fbi.l1] at H
 by_cases c35:yd<(zm.length:Int)
 rotate_left
 ·rw[iN c35] at H
  have yao:=dF c35
  clear c35
  replace H:=oi4 H
  obtain⟨rfl,rfl,rfl,rfl⟩:=H
  have hnb58:=z2.out
  have hnc58:=zw.out
  have hnb59:=z3.out
  have hnc59:=zx.out
  have hcz60:=blk3 zf.out
  have hnb62:=zr.out
  have hnc62:=zq.out
  have hcz63:=blk3 zc.out
  obtain⟨yay,yaz,ya0⟩:=Kd.R_slice ze.out
  subst ya0
  go_wp2
  refine bodyPost_ret (results_ct rfl _ _ zn 32 #[.slice zt zk.length zu,.slice none 0 0,.slice yay zi.length yaz] (0,0) _ rfl (by exact P3 zc) Try.underlying32 rfl (by kernel_rfl)) rfl ?_
  exact⟨_,_,_,pE,by(with_reducible repeat(first|apply rA|apply rN|apply rD));exact F3 zd zc (fun _ hk=>⟨(by simp[Value.ownBlock]),hk.1⟩),pN,by(with_reducible repeat(first|apply rA|apply rN|apply rD));exact F3 ze zc (fun _ hk=>⟨hk.1,(by simp[Value.ownBlock])⟩),qB3 HB zh zj zy⟩
 rw[ip c35] at H
 have yao:=dT c35
 clear c35
 obtain⟨zag,zap⟩:∃ y_:List Int,y_=(([]:List Int)):=⟨_,rfl⟩
 replace H:(if 0≤yd then(if yd<(zm.length:Int)then(if zag.length+(rd_L1 zm yd).length<17592186044416 then((some (zag++(rd_L1 zm yd):List Int)).bind fun zg=>(if 0≤ya then(if ya<(zg.length:Int)then(if 0≤(rd zg ya)then(if(rd zg ya)<(yb.length:Int)then((fao.f k2 zk (zg.set (ya:Int).toNat (rd yb (rd zg ya)))).bind fun z4=>(if zi.length<17592186044416 then(fbi.l1 k2 l0 zm (zm.length:Int) (wrap64 (yd+1)) ya ye yg yh yi yj yk yl ym yb zk (zi++[z4]))else(none)))else(none))else(none))else(none))else(none)))else(none))else(none))else(none))=some (r1,r2,r3,r4):=pH zap H
 have zax:=aM zap
 clear zap
 by_cases c36:0≤yd
 rotate_left
 ·rw[iN c36] at H
  cases H
 rw[ip c36] at H
 have c36b0:=dT c36
 clear c36
 by_cases c37:yd<(zm.length:Int)
 rotate_left
 ·rw[iN c37] at H
  cases H
 rw[ip c37] at H
 have c37b0:=dT c37
 clear c37
 by_cases c38:zag.length+(rd_L1 zm yd).length<17592186044416
 rotate_left
 ·rw[iN c38] at H
  cases H
 rw[ip c38] at H
 have LMc38:=aM c38
 clear c38
 obtain⟨zg,zaq⟩:∃ y_:List Int,y_=(zag++(rd_L1 zm yd)):=⟨_,rfl⟩
 replace H:(if 0≤ya then(if ya<(zg.length:Int)then(if 0≤(rd zg ya)then(if(rd zg ya)<(yb.length:Int)then((fao.f k2 zk (zg.set (ya:Int).toNat (rd yb (rd zg ya)))).bind fun z4=>(if zi.length<17592186044416 then(fbi.l1 k2 l0 zm (zm.length:Int) (wrap64 (yd+1)) ya ye yg yh yi yj yk yl ym yb zk (zi++[z4]))else(none)))else(none))else(none))else(none))else(none))=some (r1,r2,r3,r4):=pH zaq H
 have Ny541:=aM zaq
 clear zaq
 by_cases c39:0≤ya
 rotate_left
 ·rw[iN c39] at H
  cases H
 rw[ip c39] at H
 have c39b0:=dT c39
 clear c39
 by_cases c40:ya<(zg.length:Int)
 rotate_left
 ·rw[iN c40] at H
  cases H
 rw[ip c40] at H
 have c40b0:=dT c40
 clear c40
 by_cases c41:0≤(rd zg ya)
 rotate_left
 ·rw[iN c41] at H
  cases H
 rw[ip c41] at H
 have c41b0:=dT c41
 clear c41
 by_cases c42:(rd zg ya)<(yb.length:Int)
 rotate_left
 ·rw[iN c42] at H
  cases H
 rw[ip c42] at H
 have c42b0:=dT c42
 clear c42
 obtain⟨zam,zar⟩:∃ y_:List Int,y_=(zg.set (ya:Int).toNat (rd yb (rd zg ya))):=⟨_,rfl⟩
 replace H:((fao.f k2 zk zam).bind fun z4=>(if zi.length<17592186044416 then(fbi.l1 k2 l0 zm (zm.length:Int) (wrap64 (yd+1)) ya ye yg yh yi yj yk yl ym yb zk (zi++[z4]))else(none)))=some (r1,r2,r3,r4):=pH zar H
 have Ny546:=aM zar
 clear zar
 replace H:=oB H
 obtain⟨z4,za5,H⟩:=H
 try dsimp only at H
 have A44:=aM za5
 clear za5
 by_cases c45:zi.length<17592186044416
 rotate_left
 ·rw[iN c45] at H
  cases H
 rw[ip c45] at H
 have LMc45:=aM c45
 clear c45
 obtain⟨zan,zas⟩:∃ y_:List Int,y_=(zi++[z4]):=⟨_,rfl⟩
 replace H:(fbi.l1 k2 l0 zm (zm.length:Int) (wrap64 (yd+1)) ya ye yg yh yi yj yk yl ym yb zk zan)=some (r1,r2,r3,r4):=pH zas H
 have Ny548:=aM zas
 clear zas
 have H':=aM H
 clear H
 try go_wp2_with (first|((with_reducible refine gD 69 rfl ?_);refine Kd.R_lit (Kd.int .i64) _ 3 ?hg (N:=69) ?hd (xs:=([]:List Int)) (inner:=[]) (ok:=fun _=>True) (okp:=fun _=>True) ?hr ?hp (fun _ hk=>hk) trivial (Below.refl _ _) (Nat.le_refl _) (by simp) ?_;(case hd=>rfl);(case hg=>rfl);(case hr=>first|(go_simp;done)|(go_simp;rfl));(case hp=>exact(Reps.none _ _));intro v538 w46 ho47 hb hg_ hnew_;clear hg_ hnew_;(first|rw[← zax.out] at ho47|(simp only[Int.reduceToNat] at ho47;rw[← zax.out] at ho47));replace zp:=aM (Kd.N_elder' (by(with_reducible repeat(first|apply Kd.N_alloc|apply Kd.N_drewN|apply Kd.N_drew));exact zp.out) (Kd.R_base ho47) hb);have zak:=aM (Kd.R_lower (Kd.R_new' (Kd.R_new' ho47 (Kd.R_lt (pR zd.out))) (Kd.R_lt (pR ze.out))) (below_size (qB3 HB zh zj zy)));replace zd:=eR zd ho47 hb;replace ze:=eR ze ho47 hb;replace za:=bK za hb;replace zc:=bK zc hb;replace zf:=bK zf hb;replace HB:=bS (qB3 HB zh zj zy) hb;clear hb ho47;have yap:0≤(yd:Int):=oD;have yaq:yd<(zm.length:Int):=oD;obtain⟨yy,yaa,yab,ya1,y5,yz,y0⟩:=at_L1 (Kd.N_reads' zp.out).2.2 yd yap yaq;cases ya1;obtain⟨ce540,yac,yad,y3⟩:=Kd.N_get zp.out [] yd yap (by first|exact yaq|exact of_decide_eq_true pD|(have e_:=(Kd.N_reads' zp.out).1;omega));obtain⟨ua540_0,uc540_0,rfl,ul540_0,ge540_0⟩:=Kd.FK_slice_open yad;have hv540_0:=y3 0 _ rfl;rw[Nat.add_zero,show ((Kd.slice 3 (Kd.int .i64))).sz=1 from rfl,Nat.mul_one] at hv540_0;replace hv540_0:=Option.some.inj (hv540_0.symm.trans y5);injection hv540_0 with hva_ hvn_ hvc_;rw[hva_] at ge540_0;rw[hvc_] at ul540_0;have HL540_0:=aM (show Kd.V (Kd.int .i64) 3 _ w.heap.size _ _ (rd_L1 zm yd) from Kd.V_mk ul540_0 ge540_0);clear hva_ hvn_ hvc_ ge540_0 ul540_0;clear y3 yac;have zal:=aM y0;have HC540_0:=aM yz;clear y0 yz)|((with_reducible refine gate_builtin (b:=.append) (xs:=#[.tmp 69,.tmp 73]) rfl ?_);at_builtin;refine Kd.R_append_rows (Kd.int .i64) (w0:=w) w.heap.size rfl (.tmp 69) (.tmp 73) 22 3 (.int .i64 0) 8 rfl Try.underlying22 info3 rfl (by decide) (by omega) v538 zag (rd_L1 zm yd) _ _ _ (fun k_=>some k_≠((.slice zt zk.length zu):Value).ownBlock∧some k_≠(u534002:Value).ownBlock) (fun _=>False) rfl rfl ?aO ?aR (fun _ _ h=>h) (fun _ h=>h.elim) ?aF ?aB ?aS ?aL ?_;(case aR=>repeat(first|exact(by repeat(first|(with_reducible exact zal.out)|(with_reducible refine Kd.C_alloc ?_ _)|(with_reducible refine Kd.C_drewN ?_ _)|(with_reducible refine Kd.C_drew ?_)|exact zal.out))|(with_reducible refine Kd.C_alloc ?_ _)|(with_reducible refine Kd.C_drewN ?_ _)|(with_reducible refine Kd.C_drew ?_)));(case aB=>exact(qB3 HB zh zj zy));(case aF=>exact(fun k_ hk=>⟨Kd.fresh' (Kd.R_lt (pR zd.out)) k_ hk,Kd.fresh' (Kd.R_lt (pR ze.out)) k_ hk⟩));(case aO=>exact(by(with_reducible repeat(first|apply rA|apply rN|apply rD));exact Kd.R_mono zak.out (fun _ hk=>⟨hk.1.2,hk.2⟩)));(case aS=>exact(below_size (qB3 HB zh zj zy)));(case aL=>have:=LMc38.out;omega);intro v542 w48 ho hb hg hat;rw[← Ny541.out] at ho;replace zp:=aM (Kd.N_afterv (ok:=(fun k_=>some k_≠((.slice zt zk.length zu):Value).ownBlock∧some k_≠(u534002:Value).ownBlock∧k_≠zb∧k_≠zn∧k_≠zo)) (by(with_reducible repeat(first|apply Kd.N_alloc|apply Kd.N_drewN|apply Kd.N_drew));exact zp.out) hg hat);replace zd:=aM (Kd.R_after (ok:=(fun k_=>some k_≠(u534002:Value).ownBlock)) (pR zd.out) hg hat);replace ze:=aM (Kd.R_after (ok:=(fun k_=>some k_≠((.slice zt zk.length zu):Value).ownBlock)) (pR ze.out) hg hat);replace za:=aM (blk_grown (g:=zb) (pK za.out) hg (Kd.R_ne zak.out za.out (by decide)));replace zc:=aM (blk_grown (g:=zn) (pK zc.out) hg (Kd.R_ne zak.out zc.out (by decide)));replace zf:=aM (blk_grown (g:=zo) (pK zf.out) hg (Kd.R_ne zak.out zf.out (by decide)));replace HL540_0:=aM (Kd.V_afterv (ok:=(fun k_=>some k_≠(.slice (some yy) zm.length zao:Value).ownBlock∧some k_≠((.slice zt zk.length zu):Value).ownBlock∧some k_≠(u534002:Value).ownBlock∧k_≠zb∧k_≠zn∧k_≠zo)) (by(with_reducible repeat(first|apply Kd.V_alloc|apply Kd.V_drewN|apply Kd.V_drew));exact Kd.V_mono HL540_0.out (fun _ hk=>⟨⟨hk.2,⟨hk.1.1.1,⟨hk.1.1.2.1,⟨hk.1.1.2.2.1,⟨hk.1.1.2.2.2.1,hk.1.1.2.2.2.2⟩⟩⟩⟩⟩,hk.1.2⟩)) hg hat);replace HB:=aM (hb);have zl:=aM (ho);clear zak;clear ho hb hg hat))
 replace zp:=aM (Kd.N_drew zp.out)
 replace zd:=aM (Kd.R_drew zd.out)
 replace ze:=aM (Kd.R_drew ze.out)
 replace HL540_0:=aM (Kd.V_drew HL540_0.out)
 replace zl:=aM (Kd.R_drew zl.out)
 replace za:=aM (blk_drew za.out)
 replace zc:=aM (blk_drew zc.out)
 replace zf:=aM (blk_drew zf.out)
 replace HB:=aM (below_drew1 HB.out)
 obtain⟨Ao50,zac,za6⟩:=Kd.R_slice zl.out
 (first|subst za6|(injection za6 with f1_ f2_ f3_;have f4_:=f1_.symm;have f5_:=f3_.symm;clear f1_ f2_ f3_;subst f4_;subst f5_))
 obtain⟨ad544,⟨⟩,yw,p544,q544⟩:=zI (Kd.R_reads' zl.out).2.2 ya
 obtain⟨y4,⟨⟩,y1,p545,q545⟩:=zI zad.out (rd zg ya)
 have y6:=zW HB y1
 have p43:0≤(ya:Int):=oD
 have q43:(ya:Int)<((zg.length:Int):Int):=oD
 obtain⟨yf,co43,za7,za8,gl43,cl43,HG43⟩:=Kd.R_form zl.out (by omega)
 (first|cases za7|(injection za7 with ea_ en_ ec_;(first|subst ea_|(injection ea_ with ea_;subst ea_));subst ec_;clear en_))
 have GB43:=aM za8
 have GG43:=aM HG43
 clear za8 gl43 HG43
 (first|simp only[add_plain] at yw|skip)
 obtain⟨yae,hf43_0⟩:=Kd.R_celln 0 zl.out (ya:Int) p43 q43
 have HP51:=Kd.R_putn zl.out (ya:Int) (rd yb (rd zg ya))
 rw[← Ny546.out] at HP51
 have HQ51:=aM HP51
 clear HP51
 refine sT 14 [13] (fun w'=>w'.cell? ⟨zb,0,none⟩=some (.int .i64 ya)∧w'.cell? ⟨zb,1,none⟩=some (.int .i64 ye)∧w'.cell? ⟨zb,2,none⟩=some (.int .i64 yg)∧w'.cell? ⟨zb,3,none⟩=some (.int .i64 yh)∧w'.cell? ⟨zb,4,none⟩=some (.int .i64 yi)∧w'.cell? ⟨zb,5,none⟩=some (.int .i64 yj)∧w'.cell? ⟨zb,6,none⟩=some (.int .i64 yk)∧w'.cell? ⟨zb,7,none⟩=some (.int .i64 yl)∧w'.cell? ⟨zb,8,none⟩=some (.bool ym)∧w'.cell? ⟨zb,9,none⟩=some (.slice (some y4) yb.length yq)∧w'.cell? ⟨yf,(ya).toNat,none⟩=some (.int .i64 (rd zg ya))∧w'.cell? (y4.add ((rd zg ya)).toNat)=some (.int .i64 (rd yb (rd zg ya)))) fbi.tab18 fbi.bits18 (c10 za ⟨yw,(zW HB y1)⟩) (fun hHeld HT_ HW_=>?_)
 generalize w48.drew=w49 at zp zd ze HL540_0 zl za zc zf HB GG43 HQ51 hf43_0 yae yw y6 hHeld ⊢
 refine pQ 0 75 14 1 HT_ ?_
 refine pQ 1 76 14 3 HT_ ?_
 refine pQ 3 78 14 11 HT_ ?_
 refine pQ 5 80 14 43 HT_ ?_
 refine pQ 6 81 14 107 HT_ ?_
 refine pU12 2 77 14 111 HT_ HW_ hHeld ?_
 refine pU12 4 79 14 127 HT_ HW_ hHeld ?_
 refine pU12 7 82 14 255 HT_ HW_ hHeld ?_
 refine pQ 8 83 14 511 HT_ ?_
 refine pU12 9 84 14 1023 HT_ HW_ hHeld ?_
 refine pQ 10 85 14 2047 HT_ ?_
 refine pU12 11 86 14 4095 HT_ HW_ hHeld ?_
 refine pQ 12 87 14 8191 HT_ ?_
 refine last_ (i:=13) (N:=none) (bm 14 16383) rfl rfl (one_of HT_.out (by kernel_rfl)) (by decide) (fun K hK=>?_)
 refine skip_ (w1:=?_) (by rfl) rfl ?_ ?_
 rotate_left
 ·go_simp
  rfl
 refine hK.out _ _ ?_
 clear hK K
 refine dN HT_ ?_
 have n0_:Aside0 (Kd.N (Kd.slice 3 (Kd.int .i64)) 22 (w49.setCell ⟨yf,(ya:Int).toNat,none⟩ (.int .i64 (rd yb (rd zg ya)))) w.heap.size (fun k_=>some k_≠((.slice zt zk.length zu):Value).ownBlock∧some k_≠(u534002:Value).ownBlock∧some k_≠(.slice (some ⟨yf,0,none⟩) zg.length zac:Value).ownBlock∧k_≠zb∧k_≠zn∧k_≠zo) (.slice (some yy) zm.length zao) zm):=⟨by(with_reducible repeat(first|apply Kd.N_alloc|apply Kd.N_drewN|apply Kd.N_drew));exact Kd.N_mono (Kd.N_far (p:=⟨yf,(ya:Int).toNat,none⟩) (Kd.N_mono zp.out (fun k_ hk=>(⟨hk,fun e_=>hk.2 (by rw[e_];rfl)⟩:_∧k_≠yf))) (fun _ hk=>hk.2) (.int .i64 (rd yb (rd zg ya)))) (fun _ hk=>⟨hk.1.1.1,⟨hk.1.1.2.1,⟨hk.1.2,⟨hk.1.1.2.2.1,⟨hk.1.1.2.2.2.1,hk.1.1.2.2.2.2⟩⟩⟩⟩⟩)⟩
 have n1_:Aside0 (Kd.R (Kd.int .i64) 3 (w49.setCell ⟨yf,(ya:Int).toNat,none⟩ (.int .i64 (rd yb (rd zg ya)))) w.heap.size (fun k_=>some k_≠(u534002:Value).ownBlock∧some k_≠(.slice (some ⟨yf,0,none⟩) zg.length zac:Value).ownBlock) (.slice zt zk.length zu) zk):=⟨by(with_reducible repeat(first|apply rA|apply rN|apply rD));exact Kd.R_mono (Kd.R_far (p:=⟨yf,(ya:Int).toNat,none⟩) (Kd.R_mono zd.out (fun k_ hk=>(⟨hk,fun e_=>hk.2 (by rw[e_];rfl)⟩:_∧k_≠yf))) (fun _ hk=>hk.2) (.int .i64 (rd yb (rd zg ya)))) (fun _ hk=>⟨hk.1.1,hk.1.2⟩)⟩
 have n2_:Aside0 (Kd.R (Kd.int .i64) 3 (w49.setCell ⟨yf,(ya:Int).toNat,none⟩ (.int .i64 (rd yb (rd zg ya)))) w.heap.size (fun k_=>some k_≠((.slice zt zk.length zu):Value).ownBlock∧some k_≠(.slice (some ⟨yf,0,none⟩) zg.length zac:Value).ownBlock) u534002 zi):=⟨by(with_reducible repeat(first|apply rA|apply rN|apply rD));exact Kd.R_mono (Kd.R_far (p:=⟨yf,(ya:Int).toNat,none⟩) (Kd.R_mono ze.out (fun k_ hk=>(⟨hk,fun e_=>hk.2 (by rw[e_];rfl)⟩:_∧k_≠yf))) (fun _ hk=>hk.2) (.int .i64 (rd yb (rd zg ya)))) (fun _ hk=>⟨hk.1.1,hk.1.2⟩)⟩
 have n3_:Aside0 (Kd.V (Kd.int .i64) 3 (w49.setCell ⟨yf,(ya:Int).toNat,none⟩ (.int .i64 (rd yb (rd zg ya)))) w.heap.size (fun k_=>some k_≠(.slice (some yy) zm.length zao:Value).ownBlock∧some k_≠((.slice zt zk.length zu):Value).ownBlock∧some k_≠(u534002:Value).ownBlock∧some k_≠(.slice (some ⟨yf,0,none⟩) zg.length zac:Value).ownBlock∧k_≠zb∧k_≠zn∧k_≠zo) (.slice yaa (rd_L1 zm yd).length yab) (rd_L1 zm yd)):=⟨by(with_reducible repeat(first|apply Kd.V_alloc|apply Kd.V_drewN|apply Kd.V_drew));exact Kd.V_mono (Kd.V_far (p:=⟨yf,(ya:Int).toNat,none⟩) (Kd.V_mono HL540_0.out (fun k_ hk=>(⟨hk,fun e_=>hk.2 (by rw[e_];rfl)⟩:_∧k_≠yf))) (fun _ hk=>hk.2) (.int .i64 (rd yb (rd zg ya)))) (fun _ hk=>⟨hk.1.1.1,⟨hk.1.1.2.1,⟨hk.1.1.2.2.1,⟨hk.1.2,⟨hk.1.1.2.2.2.1,⟨hk.1.1.2.2.2.2.1,hk.1.1.2.2.2.2.2⟩⟩⟩⟩⟩⟩)⟩
 have n4_:Aside0 (Kd.R (Kd.int .i64) 3 (w49.setCell ⟨yf,(ya:Int).toNat,none⟩ (.int .i64 (rd yb (rd zg ya)))) w.heap.size (fun k_=>some k_≠((.slice zt zk.length zu):Value).ownBlock∧some k_≠(u534002:Value).ownBlock) (.slice (some ⟨yf,0,none⟩) zg.length zac) zam):=⟨pR HQ51.out⟩
 have n5_:Aside0 ((w49.setCell ⟨yf,(ya:Int).toNat,none⟩ (.int .i64 (rd yb (rd zg ya)))).heap[zb]?=some (.cells (aT ya ye yg yh yi yj yk yl ym (some y4) yb.length yq) 24 (0,0))):=⟨by(with_reducible repeat(first|apply bN|apply bD|apply bA));refine blk_far ?_ (by have h_:=Kd.R_ne zl.out za.out (by decide);intro e_;exact h_ (by rw[e_];rfl)) _;(with_reducible repeat(first|apply bN|apply bD|apply bA));exact za.out⟩
 have n6_:Aside0 ((w49.setCell ⟨yf,(ya:Int).toNat,none⟩ (.int .i64 (rd yb (rd zg ya)))).heap[zn]?=some (.cells #[.slice none 0 0,.slice none 0 0,.slice none 0 0] 32 (0,0))):=⟨by(with_reducible repeat(first|apply bN|apply bD|apply bA));refine blk_far ?_ (by have h_:=Kd.R_ne zl.out zc.out (by decide);intro e_;exact h_ (by rw[e_];rfl)) _;(with_reducible repeat(first|apply bN|apply bD|apply bA));exact zc.out⟩
 have n7_:Aside0 ((w49.setCell ⟨yf,(ya:Int).toNat,none⟩ (.int .i64 (rd yb (rd zg ya)))).heap[zo]?=some (.cells #[(.slice zt zk.length zu),.slice none 0 0,u534002] 32 (0,0))):=⟨by(with_reducible repeat(first|apply bN|apply bD|apply bA));refine blk_far ?_ (by have h_:=Kd.R_ne zl.out zf.out (by decide);intro e_;exact h_ (by rw[e_];rfl)) _;(with_reducible repeat(first|apply bN|apply bD|apply bA));exact zf.out⟩
 have n8_:Aside0 (Below w.heap.size w (w49.setCell ⟨yf,(ya:Int).toNat,none⟩ (.int .i64 (rd yb (rd zg ya))))):=⟨qB4 HB GB43 zh zj zy⟩
 (try clear zp)
 (try clear zd)
 (try clear ze)
 (try clear HL540_0)
 (try clear zl)
 (try clear za)
 (try clear zc)
 (try clear zf)
 (try clear HB)
 generalize (w49.setCell ⟨yf,(ya:Int).toNat,none⟩ (.int .i64 (rd yb (rd zg ya))))=w52 at n0_ n1_ n2_ n3_ n4_ n5_ n6_ n7_ n8_ ⊢
 have zp:=n0_
 have zd:=n1_
 have ze:=n2_
 have HL540_0:=n3_
 have zl:=n4_
 have za:=n5_
 have zc:=n6_
 have zf:=n7_
 have HB:=n8_
 clear n0_ n1_ n2_ n3_ n4_ n5_ n6_ n7_ n8_
 try go_wp2
 replace zp:=aM (Kd.N_drew zp.out)
 replace zd:=aM (Kd.R_drew zd.out)
 replace ze:=aM (Kd.R_drew ze.out)
 replace HL540_0:=aM (Kd.V_drew HL540_0.out)
 replace zl:=aM (Kd.R_drew zl.out)
 replace za:=aM (blk_drew za.out)
 replace zc:=aM (blk_drew zc.out)
 replace zf:=aM (blk_drew zf.out)
 replace HB:=aM (below_drew1 HB.out)
 refine sT 9 [8] (fun w'=>w'.cell? ⟨zo,0,none⟩=some ((.slice zt zk.length zu))∧w'.cell? ⟨zo,1,none⟩=some (.slice none 0 0)∧w'.cell? ⟨zo,2,none⟩=some (u534002)) fbi.tab19 fbi.bits19 (h3 zf) (fun hHeld HT_ HW_=>?_)
 generalize w52.drew=w53 at zp zd ze HL540_0 zl za zc zf HB hHeld ⊢
 refine pQ 0 88 9 1 HT_ ?_
 refine pQ 2 90 9 5 HT_ ?_
 refine pQ 3 91 9 13 HT_ ?_
 refine pU3 1 89 9 15 HT_ HW_ hHeld ?_
 refine oN 4 92 9 31 HT_ (fun K hK=>?_)
 refine goes_ Try.func64 (by kernel_rfl) rfl #[.slice zt zk.length zu,.slice (some ⟨yf,0,none⟩) zam.length zac] (by rfl) rfl rfl (by(try simp only[List.map_toArray,List.map_cons,List.map_nil]);first|done|(rw[show zam.length=zg.length from (Kd.R_reads' zl.out).1.symm] <;> rfl)|rfl|(simp only[List.length_drop,List.length_take];rfl)) ?_
 with_reducible refine(fao.calls k2 _ _ zk _ _ zam z4 _ ?s1 ?s2 ?s3 ?s4 A44.out).mono ?_
 (case s1=>exact sR zd)
 (case s2=>exact sL zd)
 (case s3=>exact sR zl)
 (case s4=>rw[show zam.length=zg.length from (Kd.R_reads' zl.out).1.symm];exact sL zl)
 rintro e w54 ⟨rfl,hb⟩
 refine⟨_,rfl,?_⟩
 replace zp:=aM (Kd.N_below (by(with_reducible repeat(first|apply Kd.N_alloc|apply Kd.N_drewN|apply Kd.N_drew));exact zp.out) hb)
 replace zd:=bR zd hb
 replace ze:=bR ze hb
 replace HL540_0:=aM (Kd.V_below (pV HL540_0.out) hb)
 replace zl:=bR zl hb
 replace za:=bK za hb
 replace zc:=bK zc hb
 replace zf:=bK zf hb
 replace HB:=bS (qB3 HB zh zj zy) hb
 refine hK.out _ _ (h3 zf) (fun hHeld=>?_)
 clear hK K
 refine nM 92 ?_
 refine oN 5 93 9 63 HT_ (fun K hK=>?_)
 refine value_ (w1:=?_) (v:=?_) (by rfl) rfl ?_ ?_
 rotate_left 2
 ·go_simp
  constructor
  ·rfl
  ·rfl
 refine hK.out _ _ ⟨(blk_cell (blk_alloc zf.out _) 0).trans rfl,(blk_cell (blk_alloc zf.out _) 1).trans rfl,(blk_cell (blk_alloc zf.out _) 2).trans rfl⟩ (fun hHeld=>?_)
 clear hK K
 refine nM 93 ?_
 refine oN 6 94 9 127 HT_ (fun K hK=>?_)
 refine Kd.R_append_step (Kd.int .i64) (w0:=w) w.heap.size (by rfl) (.tmp 89) (.tmp 93) 22 3 (.int .i64 0) 8 rfl Try.underlying22 info3 rfl (by decide) (by omega) u534002 zi z4 [.int .i64 z4] (fun k_=>some k_≠((.slice zt zk.length zu):Value).ownBlock∧some k_≠(.slice (some ⟨yf,0,none⟩) zg.length zac:Value).ownBlock) (fun _=>False) rfl rfl ?aP (fun _ hk=>hk.elim) ?aF ?aO ?aB ?aS ?aL ?_
 (case aP=>exact rfl)
 (case aB=>exact(qB3 HB zh zj zy))
 (case aF=>exact(fun k_ hk=>⟨Kd.fresh' (Kd.R_lt (pR zd.out)) k_ hk,Kd.fresh' (Kd.R_lt (pR zl.out)) k_ hk⟩))
 (case aO=>exact(pR ze.out))
 (case aS=>exact(below_size (qB3 HB zh zj zy)))
 (case aL=>have:=LMc45.out;omega)
 intro v549 w55 ho hb hg hat
 rw[← Ny548.out] at ho
 replace zp:=aM (Kd.N_afterv (ok:=(fun k_=>some k_≠((.slice zt zk.length zu):Value).ownBlock∧some k_≠(.slice (some ⟨yf,0,none⟩) zg.length zac:Value).ownBlock∧k_≠zb∧k_≠zn∧k_≠zo)) (by(with_reducible repeat(first|apply Kd.N_alloc|apply Kd.N_drewN|apply Kd.N_drew));exact Kd.N_mono zp.out (fun _ hk=>⟨⟨hk.1,⟨hk.2.2.1,⟨hk.2.2.2.1,⟨hk.2.2.2.2.1,hk.2.2.2.2.2⟩⟩⟩⟩,hk.2.1⟩)) hg hat)
 replace zd:=aM (Kd.R_after (ok:=(fun k_=>some k_≠(.slice (some ⟨yf,0,none⟩) zg.length zac:Value).ownBlock)) (by(with_reducible repeat(first|apply rA|apply rN|apply rD));exact Kd.R_mono zd.out (fun _ hk=>⟨hk.2,hk.1⟩)) hg hat)
 replace za:=aM (blk_grown (g:=zb) (pK za.out) hg (Kd.R_ne ze.out za.out (by decide)))
 replace zc:=aM (blk_grown (g:=zn) (pK zc.out) hg (Kd.R_ne ze.out zc.out (by decide)))
 replace zf:=aM (blk_grown (g:=zo) (pK zf.out) hg (Kd.R_ne ze.out zf.out (by decide)))
 replace HL540_0:=aM (Kd.V_afterv (ok:=(fun k_=>some k_≠(.slice (some yy) zm.length zao:Value).ownBlock∧some k_≠((.slice zt zk.length zu):Value).ownBlock∧some k_≠(.slice (some ⟨yf,0,none⟩) zg.length zac:Value).ownBlock∧k_≠zb∧k_≠zn∧k_≠zo)) (by(with_reducible repeat(first|apply Kd.V_alloc|apply Kd.V_drewN|apply Kd.V_drew));exact Kd.V_mono HL540_0.out (fun _ hk=>⟨⟨hk.1,⟨hk.2.1,⟨hk.2.2.2.1,⟨hk.2.2.2.2.1,⟨hk.2.2.2.2.2.1,hk.2.2.2.2.2.2⟩⟩⟩⟩⟩,hk.2.2.1⟩)) hg hat)
 replace zl:=aM (Kd.R_after (ok:=(fun k_=>some k_≠((.slice zt zk.length zu):Value).ownBlock)) (pR zl.out) hg hat)
 replace HB:=aM (hb)
 have zay:=aM (ho)
 clear ze
 clear ho hb hg hat
 obtain⟨zat,zau,za9⟩:=Kd.R_slice zay.out
 (first|subst za9|(injection za9 with f1_ f2_ f3_;have f4_:=f1_.symm;have f5_:=f3_.symm;clear f1_ f2_ f3_;subst f4_;subst f5_))
 refine hK.out _ _ (h3 zf) (fun hHeld=>?_)
 clear hK K
 refine nM 94 ?_
 refine pQ 7 95 9 255 HT_ ?_
 refine last_ (i:=8) (N:=none) (bm 9 511) rfl rfl (one_of HT_.out (by kernel_rfl)) (by decide) (fun K hK=>?_)
 have hs57:w55.cell? ⟨zo,2,none⟩=some (u534002):=(blk_cell zf.out 2).trans rfl
 have hfs57:=blk_frozen zf.out 2
 have hns57_0:=zw.out
 have hns57_1:=zx.out
 have hms57_0:=z2.out
 have hms57_1:=z3.out
 refine skip_ (w1:=?_) (by rfl) rfl ?_ ?_
 rotate_left
 ·go_simp
  rfl
 refine hK.out _ _ ?_
 clear hK K
 refine dN HT_ ?_
 try go_wp2
 go_roundg k2
 case measure=>have:=HK1.out;have:=HK2.out;omega
 case rel=>exact⟨(wrap64 (yd+1)),(zan),(.slice zat zan.length zau),(pF),H',⟨pO2 HK1 HK2⟩,⟨by(with_reducible repeat(first|apply Kd.N_alloc|apply Kd.N_drewN|apply Kd.N_drew));exact Kd.N_mono (Kd.N_far (p:=⟨zo,2,none⟩) (Kd.N_mono zp.out (fun k_ hk=>(⟨hk,hk.1.2.2.2.2⟩:_∧k_≠zo))) (fun _ hk=>hk.2) (.slice zat zan.length zau)) (fun _ hk=>⟨hk.1.1.1,⟨hk.1.2,⟨hk.1.1.2.2.1,⟨hk.1.1.2.2.2.1,hk.1.1.2.2.2.2⟩⟩⟩⟩)⟩,⟨by(with_reducible repeat(first|apply rA|apply rN|apply rD));exact Kd.R_mono (Kd.R_far (p:=⟨zo,2,none⟩) (Kd.R_types zd.out zf.out (by decide)) (fun _ hk=>hk.2) (.slice zat zan.length zau)) (fun _ hk=>hk.1.2)⟩,⟨by(with_reducible repeat(first|apply rA|apply rN|apply rD));exact Kd.R_mono (Kd.R_far (p:=⟨zo,2,none⟩) (Kd.R_types zay.out zf.out (by decide)) (fun _ hk=>hk.2) (.slice zat zan.length zau)) (fun _ hk=>hk.1.1)⟩,⟨by(with_reducible repeat(first|apply bN|apply bD|apply bA));refine blk_far ?_ zw.out _;(with_reducible repeat(first|apply bN|apply bD|apply bA));exact za.out⟩,⟨by(with_reducible repeat(first|apply bN|apply bD|apply bA));refine blk_far ?_ zx.out _;(with_reducible repeat(first|apply bN|apply bD|apply bA));exact zc.out⟩,⟨by(with_reducible repeat(first|apply bN|apply bD|apply bA));refine blk_put (cs:=#[(.slice zt zk.length zu),.slice none 0 0,u534002]) ?_ 2 _ rfl;(with_reducible repeat(first|apply bN|apply bD|apply bA));exact zf.out⟩,⟨qB3 HB zh zj zy⟩⟩
def faq.f (k:Nat) (l0 l1:List Int):Option (Bool):=(fat.f k l0 l1).bind fun bt720=>(if bt720.2=0 then((fal.f k bt720.1 l1).bind fun zc=>(some zc))else(some false))
theorem faq.calls (k:Nat)(A0:Option Addr)(c0:Nat)(l0:List Int)(A1:Option Addr)(c1:Nat)(l1:List Int)(r:Bool)(w:World)(hr0:Kd.C (Kd.int .i64) w A0 l0.length l0)(hc0:l0.length≤c0)(hr1:Kd.C (Kd.int .i64) w A1 l1.length l1)(hc1:l1.length≤c1)(h:faq.f k l0 l1=some r) :
  Calls Try.prog 95 #[.slice A0 l0.length c0,.slice A1 l1.length c1] w fun e w'=>e=.returned (.bool r)∧Below w.heap.size w w':=by
 have HR0:=aM hr0
 have HC0:=aM hc0
 clear hr0 hc0
 have HR1:=aM hr1
 have HC1:=aM hc1
 clear hr1 hc1
 have HB:=aM (Below.refl w.heap.size w)
 have H:((fat.f k l0 l1).bind fun bt720=>(if bt720.2=0 then((fal.f k bt720.1 l1).bind fun zc=>(some zc))else(some false)))=some r:=h
 clear h
 replace H:=oB H
 obtain⟨⟨zd,za⟩,A30,H⟩:=H
 try dsimp only at H
 have A3:=aM A30
 clear A30
 by_cases c4:za=0
 rotate_left
 ·rw[iN c4] at H
  have ya:=bF c4
  have yb:=nT c4
  obtain rfl:=Option.some.inj H
  go_enter Try.func95,Try.ntmps95
  go_wp2_with (first|((with_reducible refine gC 79 rfl ?_);refine gL 10 Try.func79 #[.slice A0 l0.length c0,.slice A1 l1.length c1] ?_;(with_reducible refine(fat.calls k (fun k_=>k_<w.heap.size) _ _ l0 (fun k_=>k_<w.heap.size) _ _ l1 zd za _ ?s1 ?s2 A3.out).mono ?_);(case s1=>exact Kd.V_mk HC0.out (Kd.F_below (Kd.C_F (Kd.heap_int .i64) HR0.out) (qB HB)));(case s2=>exact Kd.V_mk HC1.out (Kd.F_below (Kd.C_F (Kd.heap_int .i64) HR1.out) (qB HB)));rintro e w8 ⟨v721,rfl,ho0,hb⟩;refine⟨_,rfl,?_⟩;have zb:=aM (Kd.R_lower (Kd.R_mono (ok':=fun k_=>True) ho0 (fun _ hk_=>trivial)) (below_size (qB HB)));replace HB:=bS (qB HB) hb))
  go_ret
  exact⟨pE,qB HB⟩
 rw[ip c4] at H
 have ya:=bT c4
 have yb:=nF c4
 clear c4
 replace H:=oB H
 obtain⟨zc,A50,H⟩:=H
 try dsimp only at H
 have A5:=aM A50
 clear A50
 obtain rfl:=Option.some.inj H
 go_enter Try.func95,Try.ntmps95
 go_wp2_with (first|((with_reducible refine gC 79 rfl ?_);refine gL 10 Try.func79 #[.slice A0 l0.length c0,.slice A1 l1.length c1] ?_;(with_reducible refine(fat.calls k (fun k_=>k_<w.heap.size) _ _ l0 (fun k_=>k_<w.heap.size) _ _ l1 zd za _ ?s1 ?s2 A3.out).mono ?_);(case s1=>exact Kd.V_mk HC0.out (Kd.F_below (Kd.C_F (Kd.heap_int .i64) HR0.out) (qB HB)));(case s2=>exact Kd.V_mk HC1.out (Kd.F_below (Kd.C_F (Kd.heap_int .i64) HR1.out) (qB HB)));rintro e w6 ⟨v721,rfl,ho0,hb⟩;refine⟨_,rfl,?_⟩;have zb:=aM (Kd.R_lower (Kd.R_mono (ok':=fun k_=>True) ho0 (fun _ hk_=>trivial)) (below_size (qB HB)));replace HB:=bS (qB HB) hb;obtain⟨Ao7,co7,eo7⟩:=Kd.R_slice zb.out;subst eo7)|(go_at_call 82;(with_reducible refine(fal.calls k _ _ zd _ _ l1 zc _ ?s1 ?s2 ?s3 HC1.out A5.out).mono ?_);(case s1=>exact sR zb);(case s2=>exact sL zb);(case s3=>exact sC HR1 HB);rintro e w' ⟨rfl,⟨nd,rfl⟩⟩))
 go_ret
 exact⟨pE,qB HB⟩
def fau.l0:Nat→List Int→List Int→Int→Int→Int→Option (Int)
 | 0,_,_,_,_,_=>none
 | k+1,x0,x1,x5,x8,x9=>if x9<x8 then(if 0≤x9 then(if x9<(x0.length:Int)then(if x9<(x1.length:Int)then(fau.l0 k x0 x1 (wrap64 ((wrap64 (x5*(rd x0 x9)))+(rd x1 x9))) x8 (wrap64 (x9+1)))else(none))else(none))else(none))else(some x5)
def fau.f (k:Nat) (l0 l1:List Int):Option (Int):=fau.l0 k l0 l1 0 (l0.length:Int) 0
theorem fau.calls (k:Nat)(A0:Option Addr)(c0:Nat)(l0:List Int)(A1:Option Addr)(c1:Nat)(l1:List Int)(r:Int)(w:World)(hr0:Kd.C (Kd.int .i64) w A0 l0.length l0)(hc0:l0.length≤c0)(hr1:Kd.C (Kd.int .i64) w A1 l1.length l1)(hc1:l1.length≤c1)(h:fau.f k l0 l1=some r) :
  Calls Try.prog 99 #[.slice A0 l0.length c0,.slice A1 l1.length c1] w fun e w'=>e=.returned (.int .i64 r)∧Drawn0 w w':=by
 have HR0:=aM hr0
 have HC0:=aM hc0
 clear hr0 hc0
 have HR1:=aM hr1
 have HC1:=aM hc1
 clear hr1 hc1
 have H:(fau.l0 k l0 l1 0 (l0.length:Int) 0)=some r:=h
 clear h
 have H':=aM H
 clear H
 go_enter Try.func99,Try.ntmps99
 go_wp2
 repeat(go_quiet (fail);try go_wp2)
 go_loopg [5,9] k (fun kq v5 v9 w'=>∃ (yb:Int) (ya:Int),v5=.int .i64 yb∧v9=.int .i64 ya∧Aside0 (fau.l0 kq l0 l1 yb (l0.length:Int) ya=some r)∧Aside0 (kq≤k)∧Drawn0 w w')
 case atStart=>exact⟨(0),(0),(pF),(pF),H',⟨Nat.le_refl _⟩,pW⟩
 clear H'
 try clear c1
 obtain⟨yb,ya,rfl,rfl,HA,HK1,⟨m1,rfl⟩⟩:=hrel
 cases gk with
 | zero=>exact absurd HA.out (by simp[fau.l0])
 | succ k1=>?_
 have H:=HA.out
 clear HA
 simp only[fau.l0] at H
 by_cases c3:ya<(l0.length:Int)
 rotate_left
 ·rw[iN c3] at H
  have yc:=dF c3
  clear c3
  obtain rfl:=Option.some.inj H
  go_wp2
  repeat(go_quiet (fail);try go_wp2)
  go_ret
  exact⟨pF,pW⟩
 rw[ip c3] at H
 have yc:=dT c3
 clear c3
 by_cases c4:0≤ya
 rotate_left
 ·rw[iN c4] at H
  cases H
 rw[ip c4] at H
 have c4b0:=dT c4
 clear c4
 by_cases c5:ya<(l0.length:Int)
 rotate_left
 ·rw[iN c5] at H
  cases H
 rw[ip c5] at H
 have c5b0:=dT c5
 clear c5
 by_cases c6:ya<(l1.length:Int)
 rotate_left
 ·rw[iN c6] at H
  cases H
 rw[ip c6] at H
 have c6b0:=dT c6
 clear c6
 have H':=aM H
 clear H
 obtain⟨ad725,⟨⟩,hx725_0,p725,q725⟩:=zI HR0.out ya
 obtain⟨ad726,⟨⟩,hx726_0,p726,q726⟩:=zI HR1.out ya
 go_wp2
 repeat(go_quiet (fail);try go_wp2)
 go_roundg k1
 case measure=>have:=HK1.out;omega
 case rel=>exact⟨(wrap64 ((wrap64 (yb*(rd l0 ya)))+(rd l1 ya))),(wrap64 (ya+1)),(pF),(pF),H',⟨pO1 HK1⟩,pW⟩
mutual
def fas.l0:Nat→List Int→List Int→List (List Int)→List Int→Int→Int→Option (List Int)
 | 0,_,_,_,_,_,_=>none
 | k+1,x0,x1,x5,x6,x17,x18=>if x18<x17 then(fas.l1 k x0 x1 x5 x6 x18 ([]:List Int) x17 x18 (x0.length:Int) 0)else(some x6)
def fas.l1:Nat→List Int→List Int→List (List Int)→List Int→Int→List Int→Int→Int→Int→Int→Option (List Int)
 | 0,_,_,_,_,_,_,_,_,_,_=>none
 | k+1,x0,x1,x5,x6,x7,x8,x17,x18,x22,x23=>if x23<x22 then(if 0≤x23 then(if x23<(x0.length:Int)then(if(rd x0 x23)=1 then(if x8.length<17592186044416 then(fas.l1 k x0 x1 x5 x6 x7 (x8++[0]) x17 x18 x22 (wrap64 (x23+1)))else(none))else(if 0≤x7 then(if x7<(x5.length:Int)then(if 0≤(wrap64 ((wrap64 ((x1.length:Int)-(x0.length:Int)))+x23))then(if(wrap64 ((wrap64 ((x1.length:Int)-(x0.length:Int)))+x23))<((rd_L1 x5 x7).length:Int)then(if x8.length<17592186044416 then(fas.l1 k x0 x1 x5 x6 x7 (x8++[rd (rd_L1 x5 x7) (wrap64 ((wrap64 ((x1.length:Int)-(x0.length:Int)))+x23))]) x17 x18 x22 (wrap64 (x23+1)))else(none))else(none))else(none))else(none))else(none)))else(none))else(none))else((fau.f k x0 x8).bind fun zf=>(if x6.length<17592186044416 then(fas.l0 k x0 x1 x5 (x6++[zf]) x17 (wrap64 (x18+1)))else(none)))
end
def fas.f (k:Nat) (l0 l1:List Int):Option (List Int):=(faq.f k l0 l1).bind fun zg=>(if zg=true then((fan.f k l1).bind fun za=>(fas.l0 k l0 l1 za ([]:List Int) (za.length:Int) 0))else(some ([]:List Int)))
theorem fas.calls (k:Nat)(A0:Option Addr)(c0:Nat)(l0:List Int)(A1:Option Addr)(c1:Nat)(l1 r:List Int)(w:World)(hr0:Kd.C (Kd.int .i64) w A0 l0.length l0)(hc0:l0.length≤c0)(hr1:Kd.C (Kd.int .i64) w A1 l1.length l1)(hc1:l1.length≤c1)(h:fas.f k l0 l1=some r) :
  Calls Try.prog 96 #[.slice A0 l0.length c0,.slice A1 l1.length c1] w fun e w'=>∃ v0_:Value,e=.returned (v0_)∧Kd.R (Kd.int .i64) 3 w' w.heap.size (fun _=>True) v0_ r∧Below w.heap.size w w':=by
 have HR0:=aM hr0
 have HC0:=aM hc0
 clear hr0 hc0
 have HR1:=aM hr1
 have HC1:=aM hc1
 clear hr1 hc1
 have HB:=aM (Below.refl w.heap.size w)
 have H:((faq.f k l0 l1).bind fun zg=>(if zg=true then((fan.f k l1).bind fun za=>(fas.l0 k l0 l1 za ([]:List Int) (za.length:Int) 0))else(some ([]:List Int))))=some r:=h
 clear h
 replace H:=oB H
 obtain⟨zg,A30,H⟩:=H
 try dsimp only at H
 have A3:=aM A30
 clear A30
 by_cases c4:zg=true
 rotate_left
 ·replace c4:=Bool.eq_false_iff.mpr c4
  subst c4
  rw[iN fT] at H
  obtain rfl:=Option.some.inj H
  go_enter Try.func96,Try.ntmps96
  go_wp2_with (first|((with_reducible refine gC 95 rfl ?_);refine gL 12 Try.func95 #[.slice A0 l0.length c0,.slice A1 l1.length c1] ?_;(with_reducible refine(faq.calls k _ _ l0 _ _ l1 false _ ?s1 HC0.out ?s3 HC1.out A3.out).mono ?_);(case s1=>exact pC HR0.out);(case s3=>exact pC HR1.out);rintro e w27 ⟨rfl,hb⟩;refine⟨_,rfl,?_⟩;replace HB:=bS (qB HB) hb))
  go_ret
  exact⟨_,pE,pN,qB HB⟩
 subst c4
 rw[ip rfl] at H
 replace H:=oB H
 obtain⟨za,A50,H⟩:=H
 try dsimp only at H
 have A5:=aM A50
 clear A50
 have H':=aM H
 clear H
 go_enter Try.func96,Try.ntmps96
 go_wp2_with (first|((with_reducible refine gC 95 rfl ?_);refine gL 12 Try.func95 #[.slice A0 l0.length c0,.slice A1 l1.length c1] ?_;(with_reducible refine(faq.calls k _ _ l0 _ _ l1 true _ ?s1 HC0.out ?s3 HC1.out A3.out).mono ?_);(case s1=>exact pC HR0.out);(case s3=>exact pC HR1.out);rintro e w6 ⟨rfl,hb⟩;refine⟨_,rfl,?_⟩;replace HB:=bS (qB HB) hb)|((with_reducible refine gC 48 rfl ?_);refine gL 15 Try.func48 #[.slice A1 l1.length c1] ?_;(with_reducible refine(fan.calls k _ _ l1 za _ ?s1 HC1.out A5.out).mono ?_);(case s1=>exact sC HR1 HB);rintro e w7 ⟨v729,rfl,ho0,hb⟩;refine⟨_,rfl,?_⟩;have zk:=aM (Kd.N_lower (Kd.N_mono (ok':=fun k_=>True) ho0 (fun k_ hk_=>trivial)) (below_size (qB HB)));replace HB:=bS (qB HB) hb;obtain⟨Ao8,co8,eo8⟩:=Kd.N_slice zk.out;subst eo8))
 go_loopg [6,18] k (fun kq v6 v18 w'=>∃ (ye:List Int) (ya:Int),v18=.int .i64 ya∧Aside0 (fas.l0 kq l0 l1 za ye (za.length:Int) ya=some r)∧Aside0 (kq≤k)∧Aside0 (Kd.N (Kd.slice 3 (Kd.int .i64)) 22 w' w.heap.size (fun k_=>some k_≠(v6:Value).ownBlock) (.slice Ao8 za.length co8) za)∧Aside0 (Kd.R (Kd.int .i64) 3 w' w.heap.size (fun _=>True) v6 ye)∧Aside0 (Below w.heap.size w w'))
 case atStart=>exact⟨(([]:List Int)),(0),(pF),H',⟨Nat.le_refl _⟩,⟨by(with_reducible repeat(first|apply Kd.N_alloc|apply Kd.N_drewN|apply Kd.N_drew));exact Kd.N_mono zk.out (fun _ hk=>(by simp[Value.ownBlock]))⟩,⟨pN⟩,⟨qB HB⟩⟩
 clear H'
 try clear c1
 try clear c4
 obtain⟨ye,ya,rfl,HA,HK1,zb,zc,HB⟩:=hrel
 cases gk with
 | zero=>exact absurd HA.out (by simp[fas.l0])
 | succ k1=>?_
 have H:=HA.out
 clear HA
 simp only[fas.l0] at H
 by_cases c9:ya<(za.length:Int)
 rotate_left
 ·rw[iN c9] at H
  have zn:=dF c9
  clear c9
  obtain rfl:=Option.some.inj H
  go_wp2
  go_ret
  exact⟨_,pE,pR zc.out,qB HB⟩
 rw[ip c9] at H
 have zn:=dT c9
 clear c9
 have H':=aM H
 clear H
 go_wp2
 go_loopg [8,23] k1 (fun kq v8 v23 w'=>∃ (yc:List Int) (yb:Int),v23=.int .i64 yb∧Aside0 (fas.l1 kq l0 l1 za ye ya yc (za.length:Int) ya (l0.length:Int) yb=some r)∧Aside0 (kq≤k1)∧Aside0 (Kd.N (Kd.slice 3 (Kd.int .i64)) 22 w' w.heap.size (fun k_=>some k_≠(u6:Value).ownBlock∧some k_≠(v8:Value).ownBlock) (.slice Ao8 za.length co8) za)∧Aside0 (Kd.R (Kd.int .i64) 3 w' w.heap.size (fun k_=>some k_≠(v8:Value).ownBlock) u6 ye)∧Aside0 (Kd.R (Kd.int .i64) 3 w' w.heap.size (fun k_=>some k_≠(u6:Value).ownBlock) v8 yc)∧Aside0 (Below w.heap.size w w'))
 case atStart=>exact⟨(([]:List Int)),(0),(pF),H',⟨Nat.le_refl _⟩,⟨by(with_reducible repeat(first|apply Kd.N_alloc|apply Kd.N_drewN|apply Kd.N_drew));exact Kd.N_mono zb.out (fun _ hk=>⟨hk,(by simp[Value.ownBlock])⟩)⟩,⟨by(with_reducible repeat(first|apply rA|apply rN|apply rD));exact Kd.R_mono zc.out (fun _ hk=>(by simp[Value.ownBlock]))⟩,⟨pN⟩,⟨qB HB⟩⟩
 clear H'
 try clear zn
 obtain⟨yc,yb,rfl,HA,HK2,zb,zc,zd,HB⟩:=hrel
 cases gk with
 | zero=>exact absurd HA.out (by simp[fas.l1])
 | succ k2=>?_
 have H:=HA.out
 clear HA
 simp only[fas.l1] at H
 by_cases c10:yb<(l0.length:Int)
 rotate_left
 ·rw[iN c10] at H
  have yl:=dF c10
  clear c10
  replace H:=oB H
  obtain⟨zf,zo,H⟩:=H
  try dsimp only at H
  have A23:=aM zo
  clear zo
  by_cases c24:ye.length<17592186044416
  rotate_left
  ·rw[iN c24] at H
   cases H
  rw[ip c24] at H
  have LMc24:=aM c24
  clear c24
  obtain⟨zp,zh⟩:∃ y_:List Int,y_=(ye++[zf]):=⟨_,rfl⟩
  replace H:(fas.l0 k2 l0 l1 za zp (za.length:Int) (wrap64 (ya+1)))=some r:=pH zh H
  have Ny741:=aM zh
  clear zh
  have H':=aM H
  clear H
  obtain⟨zl,zm,ys⟩:=Kd.R_slice zd.out
  subst ys
  go_wp2_with (first|((with_reducible refine gC 99 rfl ?_);refine gL 54 Try.func99 #[.slice A0 l0.length c0,.slice zl yc.length zm] ?_;(with_reducible refine(fau.calls k2 _ _ l0 _ _ yc zf _ ?s1 HC0.out ?s3 ?s4 A23.out).mono ?_);(case s1=>exact sC HR0 HB);(case s3=>exact sR zd);(case s4=>exact sL zd);rintro e w' ⟨rfl,⟨nd,rfl⟩⟩;refine⟨_,rfl,?_⟩)|((with_reducible refine gate_builtin (b:=.append) (xs:=#[.tmp 51,.tmp 55]) rfl ?_);at_builtin;refine Kd.R_append (Kd.int .i64) (w0:=w) w.heap.size rfl (.tmp 51) (.tmp 55) 22 3 (.int .i64 0) 8 rfl Try.underlying22 info3 rfl (by decide) (by omega) u6 ye zf [.int .i64 zf] (fun k_=>some k_≠(.slice zl yc.length zm:Value).ownBlock) (fun _=>False) rfl rfl ?aP (fun _ hk=>hk.elim) ?aF ?aO ?aB ?aS ?aL ?_;(case aP=>exact rfl);(case aB=>exact(qB HB));(case aF=>exact(fun k_ hk=>Kd.fresh' (Kd.R_lt (pR zd.out)) k_ hk));(case aO=>exact(pR zc.out));(case aS=>exact(below_size (qB HB)));(case aL=>have:=LMc24.out;omega);intro v742 w26 ho hb hg hat;rw[← Ny741.out] at ho;replace zb:=aM (Kd.N_afterv (ok:=(fun k_=>some k_≠(.slice zl yc.length zm:Value).ownBlock)) (by(with_reducible repeat(first|apply Kd.N_alloc|apply Kd.N_drewN|apply Kd.N_drew));exact Kd.N_mono zb.out (fun _ hk=>⟨hk.2,hk.1⟩)) hg hat);replace zd:=aM (Kd.R_after (ok:=(fun _=>True)) (by(with_reducible repeat(first|apply rA|apply rN|apply rD));exact Kd.R_mono zd.out (fun _ hk=>⟨trivial,hk⟩)) hg hat);replace HB:=aM (hb);have HO743:=aM (ho);clear zc;clear ho hb hg hat))
  go_roundg k2
  case measure=>have:=HK1.out;have:=HK2.out;omega
  case rel=>exact⟨(zp),(wrap64 (ya+1)),(pF),H',⟨pO2 HK1 HK2⟩,⟨by(with_reducible repeat(first|apply Kd.N_alloc|apply Kd.N_drewN|apply Kd.N_drew));exact Kd.N_mono zb.out (fun _ hk=>hk.2)⟩,⟨by(with_reducible repeat(first|apply rA|apply rN|apply rD));exact Kd.R_mono HO743.out (fun _ hk=>trivial)⟩,⟨qB HB⟩⟩
 rw[ip c10] at H
 have yl:=dT c10
 clear c10
 by_cases c11:0≤yb
 rotate_left
 ·rw[iN c11] at H
  cases H
 rw[ip c11] at H
 have c11b0:=dT c11
 clear c11
 by_cases c12:yb<(l0.length:Int)
 rotate_left
 ·rw[iN c12] at H
  cases H
 rw[ip c12] at H
 have c12b0:=dT c12
 clear c12
 by_cases c13:(rd l0 yb)=1
 ·rw[ip c13] at H
  have ym:=bT c13
  have yn:=nF c13
  clear c13
  by_cases c14:yc.length<17592186044416
  rotate_left
  ·rw[iN c14] at H
   cases H
  rw[ip c14] at H
  have LMc14:=aM c14
  clear c14
  obtain⟨zq,zi⟩:∃ y_:List Int,y_=(yc++[0]):=⟨_,rfl⟩
  replace H:(fas.l1 k2 l0 l1 za ye ya zq (za.length:Int) ya (l0.length:Int) (wrap64 (yb+1)))=some r:=pH zi H
  have Ny732:=aM zi
  clear zi
  have H':=aM H
  clear H
  obtain⟨yo,⟨⟩,yd,yt,yu⟩:=zI HR0.out yb
  replace yd:=zW HB yd
  go_wp2_with (first|((with_reducible refine gate_builtin (b:=.append) (xs:=#[.tmp 31,.tmp 32]) rfl ?_);at_builtin;refine Kd.R_append (Kd.int .i64) (w0:=w) w.heap.size rfl (.tmp 31) (.tmp 32) 22 3 (.int .i64 0) 8 rfl Try.underlying22 info3 rfl (by decide) (by omega) u8 yc 0 [.int .i64 0] (fun k_=>some k_≠(u6:Value).ownBlock) (fun _=>False) rfl rfl ?aP (fun _ hk=>hk.elim) ?aF ?aO ?aB ?aS ?aL ?_;(case aP=>exact rfl);(case aB=>exact(qB HB));(case aF=>exact(fun k_ hk=>Kd.fresh' (Kd.R_lt (pR zc.out)) k_ hk));(case aO=>exact(pR zd.out));(case aS=>exact(below_size (qB HB)));(case aL=>have:=LMc14.out;omega);intro v733 w15 ho hb hg hat;rw[← Ny732.out] at ho;replace zb:=aM (Kd.N_afterv (ok:=(fun k_=>some k_≠(u6:Value).ownBlock)) (by(with_reducible repeat(first|apply Kd.N_alloc|apply Kd.N_drewN|apply Kd.N_drew));exact zb.out) hg hat);replace zc:=aM (Kd.R_after (ok:=(fun _=>True)) (by(with_reducible repeat(first|apply rA|apply rN|apply rD));exact Kd.R_mono zc.out (fun _ hk=>⟨trivial,hk⟩)) hg hat);replace HB:=aM (hb);have HO734:=aM (ho);clear zd;clear ho hb hg hat))
  go_roundg k2
  case measure=>have:=HK1.out;have:=HK2.out;omega
  case rel=>exact⟨(zq),(wrap64 (yb+1)),(pF),H',⟨pO2 HK1 HK2⟩,⟨by(with_reducible repeat(first|apply Kd.N_alloc|apply Kd.N_drewN|apply Kd.N_drew));exact zb.out⟩,⟨by(with_reducible repeat(first|apply rA|apply rN|apply rD));exact Kd.R_mono zc.out (fun _ hk=>hk.2)⟩,⟨pR HO734.out⟩,⟨qB HB⟩⟩
 rw[iN c13] at H
 have ym:=bF c13
 have yn:=nT c13
 by_cases c16:0≤ya
 rotate_left
 ·rw[iN c16] at H
  cases H
 rw[ip c16] at H
 have c16b0:=dT c16
 clear c16
 by_cases c17:ya<(za.length:Int)
 rotate_left
 ·rw[iN c17] at H
  cases H
 rw[ip c17] at H
 have c17b0:=dT c17
 clear c17
 obtain⟨ji18,hji18⟩:∃ j_:Int,(wrap64 ((wrap64 ((l1.length:Int)-(l0.length:Int)))+yb))=j_:=⟨_,rfl⟩
 replace H:(if 0≤(ji18)then(if(ji18)<((rd_L1 za ya).length:Int)then(if yc.length<17592186044416 then(fas.l1 k2 l0 l1 za ye ya (yc++[rd (rd_L1 za ya) (ji18)]) (za.length:Int) ya (l0.length:Int) (wrap64 (yb+1)))else(none))else(none))else(none))=some r:=by first|(rw[hji18] at H;exact H)|(simp only[hji18] at H ⊢;exact H)
 have hji18w:(IntKind.i64.wrap ((wrap64 ((l1.length:Int)-(l0.length:Int)))+yb))=ji18:=(i64_w _).trans hji18
 by_cases c19:0≤(ji18)
 rotate_left
 ·rw[iN c19] at H
  cases H
 rw[ip c19] at H
 have c19b0:=dT c19
 clear c19
 by_cases c20:(ji18)<((rd_L1 za ya).length:Int)
 rotate_left
 ·rw[iN c20] at H
  cases H
 rw[ip c20] at H
 have c20b0:=dT c20
 clear c20
 by_cases c21:yc.length<17592186044416
 rotate_left
 ·rw[iN c21] at H
  cases H
 rw[ip c21] at H
 have LMc21:=aM c21
 clear c21
 obtain⟨zr,zj⟩:∃ y_:List Int,y_=(yc++[rd (rd_L1 za ya) (ji18)]):=⟨_,rfl⟩
 replace H:(fas.l1 k2 l0 l1 za ye ya zr (za.length:Int) ya (l0.length:Int) (wrap64 (yb+1)))=some r:=pH zj H
 have Ny737:=aM zj
 clear zj
 have H':=aM H
 clear H
 obtain⟨yo,⟨⟩,yd,yt,yu⟩:=zI HR0.out yb
 replace yd:=zW HB yd
 have yp:0≤(ya:Int):=oD
 have yq:ya<(za.length:Int):=oD
 obtain⟨yr,A735_0,c735_0,yv,yi,yf,yg⟩:=at_L1 (Kd.N_reads' zb.out).2.2 ya yp yq
 cases yv
 obtain⟨ce735,yj,yk,yh⟩:=Kd.N_get zb.out [] ya yp (by first|exact yq|exact of_decide_eq_true pD|(have e_:=(Kd.N_reads' zb.out).1;omega))
 obtain⟨ua735_0,uc735_0,rfl,ul735_0,ge735_0⟩:=Kd.FK_slice_open yk
 have hv735_0:=yh 0 _ rfl
 rw[Nat.add_zero,show ((Kd.slice 3 (Kd.int .i64))).sz=1 from rfl,Nat.mul_one] at hv735_0
 replace hv735_0:=Option.some.inj (hv735_0.symm.trans yi)
 injection hv735_0 with hva_ hvn_ hvc_
 rw[hva_] at ge735_0
 rw[hvc_] at ul735_0
 have HL735_0:=aM (show Kd.V (Kd.int .i64) 3 _ w.heap.size _ _ (rd_L1 za ya) from Kd.V_mk ul735_0 ge735_0)
 clear hva_ hvn_ hvc_ ge735_0 ul735_0
 clear yh yj
 have ze:=aM yg
 have HC735_0:=aM yf
 clear yg yf
 have yw:0≤((ji18):Int):=oD
 have yx:(ji18)<((rd_L1 za ya).length:Int):=oD
 obtain⟨ad736,yy,hx736_0⟩:=Kd.at_int (by repeat(first|(with_reducible exact ze.out)|(with_reducible refine Kd.C_alloc ?_ _)|(with_reducible refine Kd.C_drewN ?_ _)|(with_reducible refine Kd.C_drew ?_)|exact ze.out)) (ji18) yw yx
 cases yy
 go_wp2_with (first|((with_reducible refine gate_builtin (b:=.append) (xs:=#[.tmp 34,.tmp 48]) rfl ?_);at_builtin;refine Kd.R_append (Kd.int .i64) (w0:=w) w.heap.size rfl (.tmp 34) (.tmp 48) 22 3 (.int .i64 0) 8 rfl Try.underlying22 info3 rfl (by decide) (by omega) u8 yc (rd (rd_L1 za ya) (ji18)) [.int .i64 (rd (rd_L1 za ya) (ji18))] (fun k_=>some k_≠(u6:Value).ownBlock) (fun _=>False) rfl rfl ?aP (fun _ hk=>hk.elim) ?aF ?aO ?aB ?aS ?aL ?_;(case aP=>exact rfl);(case aB=>exact(qB HB));(case aF=>exact(fun k_ hk=>Kd.fresh' (Kd.R_lt (pR zc.out)) k_ hk));(case aO=>exact(pR zd.out));(case aS=>exact(below_size (qB HB)));(case aL=>have:=LMc21.out;omega);intro v738 w22 ho hb hg hat;rw[← Ny737.out] at ho;replace zb:=aM (Kd.N_afterv (ok:=(fun k_=>some k_≠(u6:Value).ownBlock)) (by(with_reducible repeat(first|apply Kd.N_alloc|apply Kd.N_drewN|apply Kd.N_drew));exact zb.out) hg hat);replace zc:=aM (Kd.R_after (ok:=(fun _=>True)) (by(with_reducible repeat(first|apply rA|apply rN|apply rD));exact Kd.R_mono zc.out (fun _ hk=>⟨trivial,hk⟩)) hg hat);replace HL735_0:=aM (Kd.V_afterv (ok:=(fun k_=>some k_≠(.slice (some yr) za.length co8:Value).ownBlock∧some k_≠(u6:Value).ownBlock)) (by(with_reducible repeat(first|apply Kd.V_alloc|apply Kd.V_drewN|apply Kd.V_drew));exact Kd.V_mono HL735_0.out (fun _ hk=>⟨⟨hk.2,hk.1.1⟩,hk.1.2⟩)) hg hat);replace HB:=aM (hb);have HO739:=aM (ho);clear zd;clear ho hb hg hat))
 go_roundg k2
 case measure=>have:=HK1.out;have:=HK2.out;omega
 case rel=>exact⟨(zr),(wrap64 (yb+1)),(pF),H',⟨pO2 HK1 HK2⟩,⟨by(with_reducible repeat(first|apply Kd.N_alloc|apply Kd.N_drewN|apply Kd.N_drew));exact zb.out⟩,⟨by(with_reducible repeat(first|apply rA|apply rN|apply rD));exact Kd.R_mono zc.out (fun _ hk=>hk.2)⟩,⟨pR HO739.out⟩,⟨qB HB⟩⟩
def fav.f (k:Nat) (l0 l1:List Int):Option (List Int×List Int×Int):=(fag.f k l1).bind fun za=>(if za=0 then((faq.f k l0 l1).bind fun ze=>(if ze=true then((some (([]:List Int):List Int)).bind fun zb=>(if zb.length+l1.length<17592186044416 then((fas.f k l0 l1).bind fun zc=>(some ((zb++l1),zc,0)))else(none)))else(some (([]:List Int),([]:List Int),8))))else(some (([]:List Int),([]:List Int),za)))
theorem fav.calls (k:Nat)(A0:Option Addr)(c0:Nat)(l0:List Int)(A1:Option Addr)(c1:Nat)(l1 r1 r2:List Int)(r3:Int)(w:World)(hr0:Kd.C (Kd.int .i64) w A0 l0.length l0)(hc0:l0.length≤c0)(hr1:Kd.C (Kd.int .i64) w A1 l1.length l1)(hc1:l1.length≤c1)(h:fav.f k l0 l1=some (r1,r2,r3)) :
  Calls Try.prog 86 #[.slice A0 l0.length c0,.slice A1 l1.length c1] w fun e w'=>∃ v0_ v1_:Value,e=.returned (.tuple #[v0_,v1_,.int .i64 r3])∧Kd.R (Kd.int .i64) 3 w' w.heap.size (fun k_=>some k_≠(v1_:Value).ownBlock) v0_ r1∧Kd.R (Kd.int .i64) 3 w' w.heap.size (fun k_=>some k_≠(v0_:Value).ownBlock) v1_ r2∧Below w.heap.size w w':=by
 have HR0:=aM hr0
 have HC0:=aM hc0
 clear hr0 hc0
 have HR1:=aM hr1
 have HC1:=aM hc1
 clear hr1 hc1
 have HB:=aM (Below.refl w.heap.size w)
 have H:((fag.f k l1).bind fun za=>(if za=0 then((faq.f k l0 l1).bind fun ze=>(if ze=true then((some (([]:List Int):List Int)).bind fun zb=>(if zb.length+l1.length<17592186044416 then((fas.f k l0 l1).bind fun zc=>(some ((zb++l1),zc,0)))else(none)))else(some (([]:List Int),([]:List Int),8))))else(some (([]:List Int),([]:List Int),za))))=some (r1,r2,r3):=h
 clear h
 replace H:=oB H
 obtain⟨za,A30,H⟩:=H
 try dsimp only at H
 have A3:=aM A30
 clear A30
 by_cases c4:za=0
 rotate_left
 ·rw[iN c4] at H
  have ya:=bF c4
  have yb:=nT c4
  replace H:=oi3 H
  obtain⟨rfl,rfl,rfl⟩:=H
  go_enter Try.func86,Try.ntmps86
  go_wp2_with (first|((with_reducible refine gC 30 rfl ?_);refine gL 9 Try.func30 #[.slice A1 l1.length c1] ?_;(with_reducible refine(fag.calls k _ _ l1 za _ ?s1 HC1.out A3.out).mono ?_);(case s1=>exact pC HR1.out);rintro e w' ⟨rfl,⟨nd,rfl⟩⟩;refine⟨_,rfl,?_⟩))
  go_ret3
  exact⟨_,_,pE,pN,pN,qB HB⟩
 rw[ip c4] at H
 have ya:=bT c4
 have yb:=nF c4
 clear c4
 replace H:=oB H
 obtain⟨ze,A50,H⟩:=H
 try dsimp only at H
 have A5:=aM A50
 clear A50
 by_cases c6:ze=true
 rotate_left
 ·replace c6:=Bool.eq_false_iff.mpr c6
  subst c6
  rw[iN fT] at H
  replace H:=oi3 H
  obtain⟨rfl,rfl,rfl⟩:=H
  go_enter Try.func86,Try.ntmps86
  go_wp2_with (first|((with_reducible refine gC 30 rfl ?_);refine gL 9 Try.func30 #[.slice A1 l1.length c1] ?_;(with_reducible refine(fag.calls k _ _ l1 za _ ?s1 HC1.out A3.out).mono ?_);(case s1=>exact pC HR1.out);rintro e w' ⟨rfl,⟨nd,rfl⟩⟩;refine⟨_,rfl,?_⟩)|((with_reducible refine gC 95 rfl ?_);refine gL 15 Try.func95 #[.slice A0 l0.length c0,.slice A1 l1.length c1] ?_;(with_reducible refine(faq.calls k _ _ l0 _ _ l1 false _ ?s1 HC0.out ?s3 HC1.out A5.out).mono ?_);(case s1=>exact pC HR0.out);(case s3=>exact pC HR1.out);rintro e w14 ⟨rfl,hb⟩;refine⟨_,rfl,?_⟩;replace HB:=bS (qB HB) hb))
  go_ret3
  exact⟨_,_,pE,pN,pN,qB HB⟩
 subst c6
 rw[ip rfl] at H
 obtain⟨zb,zf⟩:∃ y_:List Int,y_=(([]:List Int)):=⟨_,rfl⟩
 replace H:(if zb.length+l1.length<17592186044416 then((fas.f k l0 l1).bind fun zc=>(some ((zb++l1),zc,0)))else(none))=some (r1,r2,r3):=pH zf H
 have zh:=aM zf
 clear zf
 by_cases c7:zb.length+l1.length<17592186044416
 rotate_left
 ·rw[iN c7] at H
  cases H
 rw[ip c7] at H
 have LMc7:=aM c7
 clear c7
 obtain⟨y749,zg⟩:∃ y_:List Int,y_=(zb++l1):=⟨_,rfl⟩
 replace H:((fas.f k l0 l1).bind fun zc=>(some (y749,zc,0)))=some (r1,r2,r3):=pH zg H
 have Ny749:=aM zg
 clear zg
 replace H:=oB H
 obtain⟨zc,A80,H⟩:=H
 try dsimp only at H
 have A8:=aM A80
 clear A80
 replace H:=oi3 H
 obtain⟨rfl,rfl,rfl⟩:=H
 go_enter Try.func86,Try.ntmps86
 go_wp2_with (first|((with_reducible refine gC 30 rfl ?_);refine gL 9 Try.func30 #[.slice A1 l1.length c1] ?_;(with_reducible refine(fag.calls k _ _ l1 za _ ?s1 HC1.out A3.out).mono ?_);(case s1=>exact pC HR1.out);rintro e w' ⟨rfl,⟨nd,rfl⟩⟩;refine⟨_,rfl,?_⟩)|((with_reducible refine gC 95 rfl ?_);refine gL 15 Try.func95 #[.slice A0 l0.length c0,.slice A1 l1.length c1] ?_;(with_reducible refine(faq.calls k _ _ l0 _ _ l1 true _ ?s1 HC0.out ?s3 HC1.out A5.out).mono ?_);(case s1=>exact pC HR0.out);(case s3=>exact pC HR1.out);rintro e w9 ⟨rfl,hb⟩;refine⟨_,rfl,?_⟩;replace HB:=bS (qB HB) hb)|((with_reducible refine gD 17 rfl ?_);refine Kd.R_lit (Kd.int .i64) _ 3 ?hg (N:=17) ?hd (xs:=([]:List Int)) (inner:=[]) (ok:=fun _=>True) (okp:=fun _=>True) ?hr ?hp (fun _ hk=>hk) trivial (Below.refl _ _) (Nat.le_refl _) (by simp) ?_;(case hd=>rfl);(case hg=>rfl);(case hr=>first|(go_simp;done)|(go_simp;rfl));(case hp=>exact(Reps.none _ _));intro v747 w10 ho11 hb hg_ hnew_;clear hg_ hnew_;(first|rw[← zh.out] at ho11|(simp only[Int.reduceToNat] at ho11;rw[← zh.out] at ho11));have zi:=aM (Kd.R_lower ho11 (below_size (qB HB)));replace HB:=bS (qB HB) hb;clear hb ho11)|((with_reducible refine gate_builtin (b:=.append) (xs:=#[.tmp 17,.tmp 18]) rfl ?_);at_builtin;refine Kd.R_append_rows (Kd.int .i64) (w0:=w) w.heap.size rfl (.tmp 17) (.tmp 18) 22 3 (.int .i64 0) 8 rfl Try.underlying22 info3 rfl (by decide) (by omega) v747 zb l1 _ _ _ (fun _=>True) (fun _=>False) rfl rfl ?aO ?aR (fun _ _ h=>h) (fun _ h=>h.elim) ?aF ?aB ?aS ?aL ?_;(case aR=>exact sC HR1 HB);(case aB=>exact(qB HB));(case aF=>exact(fun _ _=>trivial));(case aO=>exact(pR zi.out));(case aS=>exact(below_size (qB HB)));(case aL=>have:=LMc7.out;omega);intro v750 w12 ho hb hg hat;rw[← Ny749.out] at ho;replace HB:=aM (hb);have zd:=aM (ho);clear zi;clear ho hb hg hat)|((with_reducible refine gC 96 rfl ?_);refine gL 22 Try.func96 #[.slice A0 l0.length c0,.slice A1 l1.length c1] ?_;(with_reducible refine(fas.calls k _ _ l0 _ _ l1 zc _ ?s1 HC0.out ?s3 HC1.out A8.out).mono ?_);(case s1=>exact sC HR0 HB);(case s3=>exact sC HR1 HB);rintro e w13 ⟨v753,rfl,ho0,hb⟩;refine⟨_,rfl,?_⟩;have HO754:=aM (Kd.R_lower (Kd.R_new' ho0 (Kd.R_lt (pR zd.out))) (below_size (qB HB)));replace zd:=eR zd ho0 hb;replace HB:=bS (qB HB) hb))
 go_ret3
 exact⟨_,_,pE,by(with_reducible repeat(first|apply rA|apply rN|apply rD));exact Kd.R_mono zd.out (fun _ hk=>hk.2),by(with_reducible repeat(first|apply rA|apply rN|apply rD));exact Kd.R_mono HO754.out (fun _ hk=>hk.2),qB HB⟩
def fbc.l0:Nat→List Int→List Int→Int→Int→Int→Option (Int)
 | 0,_,_,_,_,_=>none
 | k+1,x0,x1,x5,x8,x9=>if x9<x8 then(if 0≤x9 then(if x9<(x0.length:Int)then(if x9<(x1.length:Int)then(fbc.l0 k x0 x1 (wrap64 ((wrap64 (x5*(rd x0 x9)))+(rd x1 x9))) x8 (wrap64 (x9+1)))else(none))else(none))else(none))else(some x5)
def fbc.f (k:Nat) (l0 l1:List Int):Option (Int):=fbc.l0 k l0 l1 0 (l0.length:Int) 0
theorem fbc.calls (k:Nat)(A0:Option Addr)(c0:Nat)(l0:List Int)(A1:Option Addr)(c1:Nat)(l1:List Int)(r:Int)(w:World)(hr0:Kd.C (Kd.int .i64) w A0 l0.length l0)(hc0:l0.length≤c0)(hr1:Kd.C (Kd.int .i64) w A1 l1.length l1)(hc1:l1.length≤c1)(h:fbc.f k l0 l1=some r) :
  Calls Try.prog 88 #[.slice A0 l0.length c0,.slice A1 l1.length c1] w fun e w'=>e=.returned (.int .i64 r)∧Drawn0 w w':=by
 have HR0:=aM hr0
 have HC0:=aM hc0
 clear hr0 hc0
 have HR1:=aM hr1
 have HC1:=aM hc1
 clear hr1 hc1
 have H:(fbc.l0 k l0 l1 0 (l0.length:Int) 0)=some r:=h
 clear h
 have H':=aM H
 clear H
 go_enter Try.func88,Try.ntmps88
 go_wp2
 repeat(go_quiet (fail);try go_wp2)
 go_loopg [5,9] k (fun kq v5 v9 w'=>∃ (yb:Int) (ya:Int),v5=.int .i64 yb∧v9=.int .i64 ya∧Aside0 (fbc.l0 kq l0 l1 yb (l0.length:Int) ya=some r)∧Aside0 (kq≤k)∧Drawn0 w w')
 case atStart=>exact⟨(0),(0),(pF),(pF),H',⟨Nat.le_refl _⟩,pW⟩
 clear H'
 try clear c1
 obtain⟨yb,ya,rfl,rfl,HA,HK1,⟨m1,rfl⟩⟩:=hrel
 cases gk with
 | zero=>exact absurd HA.out (by simp[fbc.l0])
 | succ k1=>?_
 have H:=HA.out
 clear HA
 simp only[fbc.l0] at H
 by_cases c3:ya<(l0.length:Int)
 rotate_left
 ·rw[iN c3] at H
  have yc:=dF c3
  clear c3
  obtain rfl:=Option.some.inj H
  go_wp2
  repeat(go_quiet (fail);try go_wp2)
  go_ret
  exact⟨pF,pW⟩
 rw[ip c3] at H
 have yc:=dT c3
 clear c3
 by_cases c4:0≤ya
 rotate_left
 ·rw[iN c4] at H
  cases H
 rw[ip c4] at H
 have c4b0:=dT c4
 clear c4
 by_cases c5:ya<(l0.length:Int)
 rotate_left
 ·rw[iN c5] at H
  cases H
 rw[ip c5] at H
 have c5b0:=dT c5
 clear c5
 by_cases c6:ya<(l1.length:Int)
 rotate_left
 ·rw[iN c6] at H
  cases H
 rw[ip c6] at H
 have c6b0:=dT c6
 clear c6
 have H':=aM H
 clear H
 obtain⟨ad605,⟨⟩,hx605_0,p605,q605⟩:=zI HR0.out ya
 obtain⟨ad606,⟨⟩,hx606_0,p606,q606⟩:=zI HR1.out ya
 go_wp2
 repeat(go_quiet (fail);try go_wp2)
 go_roundg k1
 case measure=>have:=HK1.out;omega
 case rel=>exact⟨(wrap64 ((wrap64 (yb*(rd l0 ya)))+(rd l1 ya))),(wrap64 (ya+1)),(pF),(pF),H',⟨pO1 HK1⟩,pW⟩
def fbb.l0:Nat→List Int→Int→List Int→List Int→List (List Int)→List Int→Int→Int→Option (List Int×List Int×Int)
 | 0,_,_,_,_,_,_,_,_=>none
 | k+1,x0,x1,x2,x9,x11,x12,x29,x30=>if x30<x29 then((some (([]:List Int):List Int)).bind fun zk=>(if 0≤x30 then(if x30<(x11.length:Int)then(if zk.length+(rd_L1 x11 x30).length<17592186044416 then((some (zk++(rd_L1 x11 x30):List Int)).bind fun za=>(if 0≤x1 then(if x1<(za.length:Int)then(if 0≤(rd za x1)then(if(rd za x1)<(x2.length:Int)then((fbc.f k x0 (za.set (x1:Int).toNat (rd x2 (rd za x1)))).bind fun zi=>(if x12.length<17592186044416 then(fbb.l0 k x0 x1 x2 x9 x11 (x12++[zi]) x29 (wrap64 (x30+1)))else(none)))else(none))else(none))else(none))else(none)))else(none))else(none))else(none)))else(some (x9,x12,0))
def fbb.f (k:Nat) (l0:List Int)(a1:Int)(l2:List Int):Option (List Int×List Int×Int):=(fam.f k l0 a1 (l2.length:Int)).bind fun bt648=>(if bt648.2=0 then((fan.f k bt648.1).bind fun zb=>(fbb.l0 k l0 a1 l2 bt648.1 zb ([]:List Int) (zb.length:Int) 0))else(some (([]:List Int),([]:List Int),bt648.2)))
theorem fbb.calls (k:Nat)(A0:Option Addr)(c0:Nat)(l0:List Int)(a1:Int)(A2:Option Addr)(c2:Nat)(l2 r1 r2:List Int)(r3:Int)(w:World)(hr0:Kd.C (Kd.int .i64) w A0 l0.length l0)(hc0:l0.length≤c0)(hr2:Kd.C (Kd.int .i64) w A2 l2.length l2)(hc2:l2.length≤c2)(h:fbb.f k l0 a1 l2=some (r1,r2,r3)) :
  Calls Try.prog 66 #[.slice A0 l0.length c0,.int .i64 a1,.slice A2 l2.length c2] w fun e w'=>∃ v0_ v1_:Value,e=.returned (.tuple #[v0_,v1_,.int .i64 r3])∧Kd.R (Kd.int .i64) 3 w' w.heap.size (fun k_=>some k_≠(v1_:Value).ownBlock) v0_ r1∧Kd.R (Kd.int .i64) 3 w' w.heap.size (fun k_=>some k_≠(v0_:Value).ownBlock) v1_ r2∧Below w.heap.size w w':=by
 have HR0:=aM hr0
 have HC0:=aM hc0
 clear hr0 hc0
 have HR2:=aM hr2
 have HC2:=aM hc2
 clear hr2 hc2
 have HB:=aM (Below.refl w.heap.size w)
 have H:((fam.f k l0 a1 (l2.length:Int)).bind fun bt648=>(if bt648.2=0 then((fan.f k bt648.1).bind fun zb=>(fbb.l0 k l0 a1 l2 bt648.1 zb ([]:List Int) (zb.length:Int) 0))else(some (([]:List Int),([]:List Int),bt648.2))))=some (r1,r2,r3):=h
 clear h
 replace H:=oB H
 obtain⟨⟨zj,zl⟩,A40,H⟩:=H
 try dsimp only at H
 have A4:=aM A40
 clear A40
 by_cases c5:zl=0
 rotate_left
 ·rw[iN c5] at H
  have zx:=bF c5
  have zy:=nT c5
  replace H:=oi3 H
  obtain⟨rfl,rfl,rfl⟩:=H
  go_enter Try.func66,Try.ntmps66
  go_wp2_with (first|((with_reducible refine gC 63 rfl ?_);refine gL 20 Try.func63 #[.slice A0 l0.length c0,.int .i64 a1,.int .i64 (l2.length:Int)] ?_;(with_reducible refine(fam.calls k _ _ l0 a1 (l2.length:Int) zj zl _ ?s1 HC0.out A4.out).mono ?_);(case s1=>exact pC HR0.out);rintro e w29 ⟨v650,rfl,ho0,hb⟩;refine⟨_,rfl,?_⟩;have zh:=aM (Kd.R_lower ho0 (below_size (qB HB)));replace HB:=bS (qB HB) hb))
  go_ret3
  exact⟨_,_,pE,pN,pN,qB HB⟩
 rw[ip c5] at H
 have zx:=bT c5
 have zy:=nF c5
 clear c5
 replace H:=oB H
 obtain⟨zb,A60,H⟩:=H
 try dsimp only at H
 have A6:=aM A60
 clear A60
 have H':=aM H
 clear H
 go_enter Try.func66,Try.ntmps66
 go_wp2_with (first|((with_reducible refine gC 63 rfl ?_);refine gL 20 Try.func63 #[.slice A0 l0.length c0,.int .i64 a1,.int .i64 (l2.length:Int)] ?_;(with_reducible refine(fam.calls k _ _ l0 a1 (l2.length:Int) zj zl _ ?s1 HC0.out A4.out).mono ?_);(case s1=>exact pC HR0.out);rintro e w7 ⟨v650,rfl,ho0,hb⟩;refine⟨_,rfl,?_⟩;have zh:=aM (Kd.R_lower ho0 (below_size (qB HB)));replace HB:=bS (qB HB) hb;obtain⟨Ao8,co8,eo8⟩:=Kd.R_slice zh.out;subst eo8)|((with_reducible refine gC 48 rfl ?_);refine gL 27 Try.func48 #[.slice Ao8 zj.length co8] ?_;(with_reducible refine(fan.calls k _ _ zj zb _ ?s1 ?s2 A6.out).mono ?_);(case s1=>exact sR zh);(case s2=>exact sL zh);rintro e w9 ⟨v653,rfl,ho0,hb⟩;refine⟨_,rfl,?_⟩;have zu:=aM (Kd.N_lower (Kd.N_mono (ok':=fun k_=>some k_≠(.slice Ao8 zj.length co8:Value).ownBlock) ho0 (fun k_ hk_=>(Kd.fresh' (Kd.R_lt (pR zh.out)) k_ hk_))) (below_size (qB HB)));replace zh:=bR zh hb;replace HB:=bS (qB HB) hb;obtain⟨yt,zt,yu⟩:=Kd.N_slice zu.out;subst yu))
 go_loopg [12,30] k (fun kq v12 v30 w'=>∃ (yb:List Int) (yd:List Int) (ya:Int),v30=.int .i64 ya∧Aside0 (fbb.l0 kq l0 a1 l2 yb zb yd (zb.length:Int) ya=some (r1,r2,r3))∧Aside0 (kq≤k)∧Aside0 (Kd.R (Kd.int .i64) 3 w' w.heap.size (fun k_=>some k_≠(v12:Value).ownBlock) (.slice Ao8 zj.length co8) yb)∧Aside0 (Kd.N (Kd.slice 3 (Kd.int .i64)) 22 w' w.heap.size (fun k_=>some k_≠((.slice Ao8 zj.length co8):Value).ownBlock∧some k_≠(v12:Value).ownBlock) (.slice yt zb.length zt) zb)∧Aside0 (Kd.R (Kd.int .i64) 3 w' w.heap.size (fun k_=>some k_≠((.slice Ao8 zj.length co8):Value).ownBlock) v12 yd)∧Aside0 (Below w.heap.size w w'))
 case atStart=>exact⟨(zj),(([]:List Int)),(0),(pF),H',⟨Nat.le_refl _⟩,⟨by(with_reducible repeat(first|apply rA|apply rN|apply rD));exact Kd.R_mono zh.out (fun _ hk=>(by simp[Value.ownBlock]))⟩,⟨by(with_reducible repeat(first|apply Kd.N_alloc|apply Kd.N_drewN|apply Kd.N_drew));exact Kd.N_mono zu.out (fun _ hk=>⟨hk,(by simp[Value.ownBlock])⟩)⟩,⟨pN⟩,⟨qB HB⟩⟩
 clear H'
 try clear c2
 try clear zx
 try clear zy
 obtain⟨yb,yd,ya,rfl,HA,HK1,zf,zd,ze,HB⟩:=hrel
 have yc:=(Kd.R_reads' zf.out).1
 rw[yc] at zf
 (try simp only[yc])
 (try simp only[yc] at zd)
 (try simp only[yc] at ze)
 cases gk with
 | zero=>exact absurd HA.out (by simp[fbb.l0])
 | succ k1=>?_
 have H:=HA.out
 clear HA
 simp only[fbb.l0] at H
 by_cases c11:ya<(zb.length:Int)
 rotate_left
 ·rw[iN c11] at H
  have zo:=dF c11
  (try simp only[yc] at zo)
  clear c11
  replace H:=oi3 H
  obtain⟨rfl,rfl,rfl⟩:=H
  go_wp2
  go_ret3
  exact⟨_,_,pE,pR zf.out,pR ze.out,qB HB⟩
 rw[ip c11] at H
 have zo:=dT c11
 (try simp only[yc] at zo)
 clear c11
 obtain⟨zk,zp⟩:∃ y_:List Int,y_=(([]:List Int)):=⟨_,rfl⟩
 replace H:(if 0≤ya then(if ya<(zb.length:Int)then(if zk.length+(rd_L1 zb ya).length<17592186044416 then((some (zk++(rd_L1 zb ya):List Int)).bind fun za=>(if 0≤a1 then(if a1<(za.length:Int)then(if 0≤(rd za a1)then(if(rd za a1)<(l2.length:Int)then((fbc.f k1 l0 (za.set (a1:Int).toNat (rd l2 (rd za a1)))).bind fun zi=>(if yd.length<17592186044416 then(fbb.l0 k1 l0 a1 l2 yb zb (yd++[zi]) (zb.length:Int) (wrap64 (ya+1)))else(none)))else(none))else(none))else(none))else(none)))else(none))else(none))else(none))=some (r1,r2,r3):=pH zp H
 have zv:=aM zp
 clear zp
 by_cases c12:0≤ya
 rotate_left
 ·rw[iN c12] at H
  cases H
 rw[ip c12] at H
 have c12b0:=dT c12
 clear c12
 by_cases c13:ya<(zb.length:Int)
 rotate_left
 ·rw[iN c13] at H
  cases H
 rw[ip c13] at H
 have yo:=dT c13
 (try simp only[yc] at yo)
 clear c13
 by_cases c14:zk.length+(rd_L1 zb ya).length<17592186044416
 rotate_left
 ·rw[iN c14] at H
  cases H
 rw[ip c14] at H
 have LMc14:=aM c14
 clear c14
 obtain⟨za,zq⟩:∃ y_:List Int,y_=(zk++(rd_L1 zb ya)):=⟨_,rfl⟩
 replace H:(if 0≤a1 then(if a1<(za.length:Int)then(if 0≤(rd za a1)then(if(rd za a1)<(l2.length:Int)then((fbc.f k1 l0 (za.set (a1:Int).toNat (rd l2 (rd za a1)))).bind fun zi=>(if yd.length<17592186044416 then(fbb.l0 k1 l0 a1 l2 yb zb (yd++[zi]) (zb.length:Int) (wrap64 (ya+1)))else(none)))else(none))else(none))else(none))else(none))=some (r1,r2,r3):=pH zq H
 have Ny659:=aM zq
 clear zq
 by_cases c15:0≤a1
 rotate_left
 ·rw[iN c15] at H
  cases H
 rw[ip c15] at H
 have c15b0:=dT c15
 clear c15
 by_cases c16:a1<(za.length:Int)
 rotate_left
 ·rw[iN c16] at H
  cases H
 rw[ip c16] at H
 have yp:=dT c16
 (try simp only[yc] at yp)
 clear c16
 by_cases c17:0≤(rd za a1)
 rotate_left
 ·rw[iN c17] at H
  cases H
 rw[ip c17] at H
 have c17b0:=dT c17
 clear c17
 by_cases c18:(rd za a1)<(l2.length:Int)
 rotate_left
 ·rw[iN c18] at H
  cases H
 rw[ip c18] at H
 have yq:=dT c18
 (try simp only[yc] at yq)
 clear c18
 obtain⟨zn,zr⟩:∃ y_:List Int,y_=(za.set (a1:Int).toNat (rd l2 (rd za a1))):=⟨_,rfl⟩
 replace H:((fbc.f k1 l0 zn).bind fun zi=>(if yd.length<17592186044416 then(fbb.l0 k1 l0 a1 l2 yb zb (yd++[zi]) (zb.length:Int) (wrap64 (ya+1)))else(none)))=some (r1,r2,r3):=pH zr H
 have Ny664:=aM zr
 clear zr
 replace H:=oB H
 obtain⟨zi,zz,H⟩:=H
 try dsimp only at H
 have A20:=aM zz
 clear zz
 by_cases c21:yd.length<17592186044416
 rotate_left
 ·rw[iN c21] at H
  cases H
 rw[ip c21] at H
 have LMc21:=aM c21
 clear c21
 obtain⟨z0,zs⟩:∃ y_:List Int,y_=(yd++[zi]):=⟨_,rfl⟩
 replace H:(fbb.l0 k1 l0 a1 l2 yb zb z0 (zb.length:Int) (wrap64 (ya+1)))=some (r1,r2,r3):=pH zs H
 have Ny666:=aM zs
 clear zs
 have H':=aM H
 clear H
 go_wp2_with (first|((with_reducible refine gD 33 rfl ?_);refine Kd.R_lit (Kd.int .i64) _ 3 ?hg (N:=33) ?hd (xs:=([]:List Int)) (inner:=[]) (ok:=fun _=>True) (okp:=fun _=>True) ?hr ?hp (fun _ hk=>hk) trivial (Below.refl _ _) (Nat.le_refl _) (by simp) ?_;(case hd=>rfl);(case hg=>rfl);(case hr=>first|(go_simp;done)|(go_simp;rfl));(case hp=>exact(Reps.none _ _));intro v656 w22 ho23 hb hg_ hnew_;clear hg_ hnew_;(first|rw[← zv.out] at ho23|(simp only[Int.reduceToNat] at ho23;rw[← zv.out] at ho23));replace zd:=aM (Kd.N_elder' (by(with_reducible repeat(first|apply Kd.N_alloc|apply Kd.N_drewN|apply Kd.N_drew));exact zd.out) (Kd.R_base ho23) hb);have zw:=aM (Kd.R_lower (Kd.R_new' (Kd.R_new' ho23 (Kd.R_lt (pR zf.out))) (Kd.R_lt (pR ze.out))) (below_size (qB HB)));replace zf:=eR zf ho23 hb;replace ze:=eR ze ho23 hb;replace HB:=bS (qB HB) hb;clear hb ho23;have yr:0≤(ya:Int):=oD;have ys:ya<(zb.length:Int):=oD;obtain⟨yi,A658_0,c658_0,yv,yk,yf,yg⟩:=at_L1 (Kd.N_reads' zd.out).2.2 ya yr ys;cases yv;obtain⟨ce658,ym,yn,yj⟩:=Kd.N_get zd.out [] ya yr (by first|exact ys|exact of_decide_eq_true pD|(have e_:=(Kd.N_reads' zd.out).1;omega));obtain⟨ua658_0,uc658_0,rfl,ul658_0,ge658_0⟩:=Kd.FK_slice_open yn;have hv658_0:=yj 0 _ rfl;rw[Nat.add_zero,show ((Kd.slice 3 (Kd.int .i64))).sz=1 from rfl,Nat.mul_one] at hv658_0;replace hv658_0:=Option.some.inj (hv658_0.symm.trans yk);injection hv658_0 with hva_ hvn_ hvc_;rw[hva_] at ge658_0;rw[hvc_] at ul658_0;have HL658_0:=aM (show Kd.V (Kd.int .i64) 3 _ w.heap.size _ _ (rd_L1 zb ya) from Kd.V_mk ul658_0 ge658_0);clear hva_ hvn_ hvc_ ge658_0 ul658_0;clear yj ym;have zm:=aM yg;have HC658_0:=aM yf;clear yg yf)|((with_reducible refine gate_builtin (b:=.append) (xs:=#[.tmp 33,.tmp 37]) rfl ?_);at_builtin;refine Kd.R_append_rows (Kd.int .i64) (w0:=w) w.heap.size rfl (.tmp 33) (.tmp 37) 22 3 (.int .i64 0) 8 rfl Try.underlying22 info3 rfl (by decide) (by omega) v656 zk (rd_L1 zb ya) _ _ _ (fun k_=>some k_≠(.slice Ao8 yb.length co8:Value).ownBlock∧some k_≠(u12:Value).ownBlock) (fun _=>False) rfl rfl ?aO ?aR (fun _ _ h=>h) (fun _ h=>h.elim) ?aF ?aB ?aS ?aL ?_;(case aR=>repeat(first|exact(by repeat(first|(with_reducible exact zm.out)|(with_reducible refine Kd.C_alloc ?_ _)|(with_reducible refine Kd.C_drewN ?_ _)|(with_reducible refine Kd.C_drew ?_)|exact zm.out))|(with_reducible refine Kd.C_alloc ?_ _)|(with_reducible refine Kd.C_drewN ?_ _)|(with_reducible refine Kd.C_drew ?_)));(case aB=>exact(qB HB));(case aF=>exact(fun k_ hk=>⟨Kd.fresh' (Kd.R_lt (pR zf.out)) k_ hk,Kd.fresh' (Kd.R_lt (pR ze.out)) k_ hk⟩));(case aO=>exact(by(with_reducible repeat(first|apply rA|apply rN|apply rD));exact Kd.R_mono zw.out (fun _ hk=>⟨hk.1.2,hk.2⟩)));(case aS=>exact(below_size (qB HB)));(case aL=>have:=LMc14.out;omega);intro v660 w24 ho hb hg hat;rw[← Ny659.out] at ho;replace zf:=aM (Kd.R_after (ok:=(fun k_=>some k_≠(u12:Value).ownBlock)) (pR zf.out) hg hat);replace zd:=aM (Kd.N_afterv (ok:=(fun k_=>some k_≠(.slice Ao8 yb.length co8:Value).ownBlock∧some k_≠(u12:Value).ownBlock)) (by(with_reducible repeat(first|apply Kd.N_alloc|apply Kd.N_drewN|apply Kd.N_drew));exact zd.out) hg hat);replace ze:=aM (Kd.R_after (ok:=(fun k_=>some k_≠(.slice Ao8 yb.length co8:Value).ownBlock)) (pR ze.out) hg hat);replace HL658_0:=aM (Kd.V_afterv (ok:=(fun k_=>some k_≠(.slice Ao8 yb.length co8:Value).ownBlock∧some k_≠(.slice (some yi) zb.length zt:Value).ownBlock∧some k_≠(u12:Value).ownBlock)) (by(with_reducible repeat(first|apply Kd.V_alloc|apply Kd.V_drewN|apply Kd.V_drew));exact Kd.V_mono HL658_0.out (fun _ hk=>⟨⟨hk.1.1.1,⟨hk.2,hk.1.1.2⟩⟩,hk.1.2⟩)) hg hat);replace HB:=aM (hb);have zc:=aM (ho);clear zw;clear ho hb hg hat;obtain⟨Ao25,zg,yw⟩:=Kd.R_slice zc.out;subst yw;obtain⟨ad662,⟨⟩,yl,p662,q662⟩:=zI (Kd.R_reads' zc.out).2.2 a1;obtain⟨ad663,⟨⟩,yh,p663,q663⟩:=zI HR2.out (rd za a1);replace yh:=zW HB yh;have yx:0≤(a1:Int):=oD;have yy:(a1:Int)<((za.length:Int):Int):=oD;obtain⟨ye,co19,z1,z2,gl19,cl19,HG19⟩:=Kd.R_form zc.out (by omega);(first|cases z1|(injection z1 with ea_ en_ ec_;(first|subst ea_|(injection ea_ with ea_;subst ea_));subst ec_;clear en_));have GB19:=aM z2;have GG19:=aM HG19;clear z2 gl19 HG19;(first|simp only[add_plain] at yl|skip);obtain⟨hx19_0,hf19_0⟩:=Kd.R_celln 0 zc.out (a1:Int) yx yy;obtain⟨hy26_,hz26_⟩:=Kd.R_celln 0 zc.out (a1:Int) (of_decide_eq_true pD) (of_decide_eq_true pD);have HP26:=Kd.R_putg zc.out (a1:Int) (rd l2 (rd za a1)))|((with_reducible refine gate_store (t:=3) (p:=48) rfl ?_);refine store_event (t:=3) (p:=48) (v:=?vo_w27) (w1:=(w24.setCell ⟨ye,(a1:Int).toNat,none⟩ (.int .i64 (rd l2 (rd za a1))))) ?hg ?ho ?hn ?hr ?_;(case ho=>rfl);(case hg=>rfl);(case hn=>rfl);(case hr=>first|(go_simp;done)|(go_simp;rfl));intro w27 hw;have hg:w24.grownBy w27 (some ye):=(by rw[hw];exact HP26.2);have hp_:Kd.R (Kd.int .i64) 3 w27 w.heap.size (fun k_=>some k_≠(.slice Ao8 yb.length co8:Value).ownBlock∧some k_≠(u12:Value).ownBlock) (.slice (some ⟨ye,0,none⟩) za.length zg) zn:=(by rw[hw,Ny664.out];exact HP26.1);clear HP26;replace zf:=aM (Kd.R_after (v:=(.slice (some ⟨ye,0,none⟩) za.length zg)) (v1:=(.slice (some ⟨ye,0,none⟩) za.length zg)) (ok:=(fun k_=>some k_≠(u12:Value).ownBlock)) (pR zf.out) hg (.inl rfl));replace zd:=aM (Kd.N_afterv (v:=(.slice (some ⟨ye,0,none⟩) za.length zg)) (v1:=(.slice (some ⟨ye,0,none⟩) za.length zg)) (ok:=(fun k_=>some k_≠(.slice Ao8 yb.length co8:Value).ownBlock∧some k_≠(u12:Value).ownBlock)) (by(with_reducible repeat(first|apply Kd.N_alloc|apply Kd.N_drewN|apply Kd.N_drew));exact zd.out) hg (.inl rfl));replace ze:=aM (Kd.R_after (v:=(.slice (some ⟨ye,0,none⟩) za.length zg)) (v1:=(.slice (some ⟨ye,0,none⟩) za.length zg)) (ok:=(fun k_=>some k_≠(.slice Ao8 yb.length co8:Value).ownBlock)) (pR ze.out) hg (.inl rfl));replace HL658_0:=aM (Kd.V_afterv (v:=(.slice (some ⟨ye,0,none⟩) za.length zg)) (v1:=(.slice (some ⟨ye,0,none⟩) za.length zg)) (ok:=(fun k_=>some k_≠(.slice Ao8 yb.length co8:Value).ownBlock∧some k_≠(.slice (some yi) zb.length zt:Value).ownBlock∧some k_≠(u12:Value).ownBlock)) (pV HL658_0.out) hg (.inl rfl));replace zc:=aM (hp_);replace HB:=aM ((by rw[hw];exact below_set (HB.out) GB19.out:Below w.heap.size w w27));clear hg hw hp_)|((with_reducible refine gC 88 rfl ?_);refine goesL_ (some 52) rfl rfl Try.func88 (by kernel_rfl) rfl #[.slice A0 l0.length c0,.slice (some ⟨ye,0,none⟩) zn.length zg] rfl (by(try simp only[List.map_toArray,List.map_cons,List.map_nil]);first|done|(rw[show zn.length=za.length from (Kd.R_reads' zc.out).1.symm] <;> rfl)|rfl|(simp only[List.length_drop,List.length_take];rfl)) ?_;(with_reducible refine(fbc.calls k1 _ _ l0 _ _ zn zi _ ?s1 HC0.out ?s3 ?s4 A20.out).mono ?_);(case s1=>exact sC HR0 HB);(case s3=>exact sR zc);(case s4=>rw[show zn.length=za.length from (Kd.R_reads' zc.out).1.symm];exact sL zc);rintro e w' ⟨rfl,⟨nd,rfl⟩⟩;refine⟨_,rfl,?_⟩)|((with_reducible refine gate_builtin (b:=.append) (xs:=#[.tmp 49,.tmp 53]) rfl ?_);at_builtin;refine Kd.R_append (Kd.int .i64) (w0:=w) w.heap.size rfl (.tmp 49) (.tmp 53) 22 3 (.int .i64 0) 8 rfl Try.underlying22 info3 rfl (by decide) (by omega) u12 yd zi [.int .i64 zi] (fun k_=>some k_≠(.slice Ao8 yb.length co8:Value).ownBlock∧some k_≠(.slice (some ⟨ye,0,none⟩) za.length zg:Value).ownBlock) (fun _=>False) rfl rfl ?aP (fun _ hk=>hk.elim) ?aF ?aO ?aB ?aS ?aL ?_;(case aP=>exact rfl);(case aB=>exact(qB HB));(case aF=>exact(fun k_ hk=>⟨Kd.fresh' (Kd.R_lt (pR zf.out)) k_ hk,Kd.fresh' (Kd.R_lt (pR zc.out)) k_ hk⟩));(case aO=>exact(pR ze.out));(case aS=>exact(below_size (qB HB)));(case aL=>have:=LMc21.out;omega);intro v667 w28 ho hb hg hat;rw[← Ny666.out] at ho;replace zf:=aM (Kd.R_after (ok:=(fun k_=>some k_≠(.slice (some ⟨ye,0,none⟩) za.length zg:Value).ownBlock)) (by(with_reducible repeat(first|apply rA|apply rN|apply rD));exact Kd.R_mono zf.out (fun _ hk=>⟨hk.2,hk.1⟩)) hg hat);replace zd:=aM (Kd.N_afterv (ok:=(fun k_=>some k_≠(.slice Ao8 yb.length co8:Value).ownBlock∧some k_≠(.slice (some ⟨ye,0,none⟩) za.length zg:Value).ownBlock)) (by(with_reducible repeat(first|apply Kd.N_alloc|apply Kd.N_drewN|apply Kd.N_drew));exact Kd.N_mono zd.out (fun _ hk=>⟨⟨hk.1.1,hk.2⟩,hk.1.2⟩)) hg hat);replace HL658_0:=aM (Kd.V_afterv (ok:=(fun k_=>some k_≠(.slice Ao8 yb.length co8:Value).ownBlock∧some k_≠(.slice (some yi) zb.length zt:Value).ownBlock∧some k_≠(.slice (some ⟨ye,0,none⟩) za.length zg:Value).ownBlock)) (by(with_reducible repeat(first|apply Kd.V_alloc|apply Kd.V_drewN|apply Kd.V_drew));exact Kd.V_mono HL658_0.out (fun _ hk=>⟨⟨hk.1.1,⟨hk.1.2.1,hk.2⟩⟩,hk.1.2.2⟩)) hg hat);replace zc:=aM (Kd.R_after (ok:=(fun k_=>some k_≠(.slice Ao8 yb.length co8:Value).ownBlock)) (pR zc.out) hg hat);replace HB:=aM (hb);have HO668:=aM (ho);clear ze;clear ho hb hg hat))
 (try simp only[← yc])
 go_roundg k1
 case measure=>have:=HK1.out;omega
 case rel=>exact⟨(yb),(z0),(wrap64 (ya+1)),(pF),H',⟨pO1 HK1⟩,⟨by(try simp only[yc]);(with_reducible repeat(first|apply rA|apply rN|apply rD));exact Kd.R_mono zf.out (fun _ hk=>hk.2)⟩,⟨by(try simp only[yc]);(with_reducible repeat(first|apply Kd.N_alloc|apply Kd.N_drewN|apply Kd.N_drew));exact Kd.N_mono zd.out (fun _ hk=>⟨hk.1.1,hk.2⟩)⟩,⟨by(try simp only[yc]);(with_reducible repeat(first|apply rA|apply rN|apply rD));exact Kd.R_mono HO668.out (fun _ hk=>hk.1)⟩,⟨qB HB⟩⟩
mutual
def faw.j0:Nat→List Int→Int→Bool→Option (List Int×List Int×Int)
 | 0,_,_,_=>none
 | k+1,x0,x1,x16=>if x16=true then(some (([]:List Int),([]:List Int),10))else(if 0≤x1 then(if x1<(x0.length:Int)then(faw.l0 k x0 x1 ([]:List Int) (rd x0 x1) 0)else(none))else(none))
def faw.l0:Nat→List Int→Int→List Int→Int→Int→Option (List Int×List Int×Int)
 | 0,_,_,_,_,_=>none
 | k+1,x0,x1,x7,x20,x21=>if x21<x20 then(if 0≤x1 then(if x1<(x0.length:Int)then(if x7.length<17592186044416 then(faw.l0 k x0 x1 (x7++[wrap64 ((wrap64 ((rd x0 x1)-1))-x21)]) x20 (wrap64 (x21+1)))else(none))else(none))else(none))else((fbb.f k x0 x1 x7).bind fun bt760=>(some (bt760.1,bt760.2.1,bt760.2.2)))
end
def faw.f (k:Nat) (l0:List Int)(a1:Int):Option (List Int×List Int×Int):=if a1<0 then(faw.j0 k l0 a1 true)else(faw.j0 k l0 a1 (decide (a1 ≥ (l0.length:Int))))
theorem faw.calls (k:Nat)(A0:Option Addr)(c0:Nat)(l0:List Int)(a1:Int)(r1 r2:List Int)(r3:Int)(w:World)(hr0:Kd.C (Kd.int .i64) w A0 l0.length l0)(hc0:l0.length≤c0)(h:faw.f k l0 a1=some (r1,r2,r3)) :
  Calls Try.prog 87 #[.slice A0 l0.length c0,.int .i64 a1] w fun e w'=>∃ v0_ v1_:Value,e=.returned (.tuple #[v0_,v1_,.int .i64 r3])∧Kd.R (Kd.int .i64) 3 w' w.heap.size (fun k_=>some k_≠(v1_:Value).ownBlock) v0_ r1∧Kd.R (Kd.int .i64) 3 w' w.heap.size (fun k_=>some k_≠(v0_:Value).ownBlock) v1_ r2∧Below w.heap.size w w':=by
 have HR0:=aM hr0
 have HC0:=aM hc0
 clear hr0 hc0
 have HB:=aM (Below.refl w.heap.size w)
 have H:(if a1<0 then(faw.j0 k l0 a1 true)else(faw.j0 k l0 a1 (decide (a1 ≥ (l0.length:Int)))))=some (r1,r2,r3):=h
 clear h
 have HC3:=aM H
 clear H
 go_enter Try.func87,Try.ntmps87
 go_upto_region 1 with(fail)
 go_cut [16] (fun v16 wc=>∃ (kq:Nat) (yd:Bool),v16=.bool yd∧Aside0 (faw.j0 kq l0 a1 yd=some (r1,r2,r3))∧Aside0 (kq≤k)∧Aside0 (Below w.heap.size w wc))
 case first =>
  have H:=HC3.out
  clear HC3
  by_cases c4:a1<0
  ·rw[ip c4] at H
   have zb:=dT c4
   clear c4
   (first|rw[zb]|(simp only[i64_w,i32_w];rw[zb])|skip)
   have H':=aM H
   clear H
   go_wp2
   go_meet
   case rel=>exact⟨_,(true),(pF),H',⟨pO⟩,⟨qB HB⟩⟩
  rw[iN c4] at H
  have zb:=dF c4
  clear c4
  (first|rw[zb]|(simp only[i64_w,i32_w];rw[zb])|skip)
  have H':=aM H
  clear H
  go_wp2
  go_meet
  case rel=>exact⟨_,(decide (a1 ≥ (l0.length:Int))),(pF),H',⟨pO⟩,⟨qB HB⟩⟩
 clear HC3
 obtain⟨kq,yd,rfl,HA,HJ2,HB⟩:=hcut
 cases kq with
 | zero=>exact absurd HA.out (by simp[faw.j0])
 | succ kj2=>?_
 have H:=HA.out
 clear HA
 simp only[faw.j0] at H
 by_cases c5:yd=true
 ·subst c5
  rw[ip rfl] at H
  replace H:=oi3 H
  obtain⟨rfl,rfl,rfl⟩:=H
  go_wp2
  go_ret3
  exact⟨_,_,pE,pN,pN,qB HB⟩
 replace c5:=Bool.eq_false_iff.mpr c5
 subst c5
 rw[iN fT] at H
 by_cases c6:0≤a1
 rotate_left
 ·rw[iN c6] at H
  cases H
 rw[ip c6] at H
 have yh:=dT c6
 clear c6
 by_cases c7:a1<(l0.length:Int)
 rotate_left
 ·rw[iN c7] at H
  cases H
 rw[ip c7] at H
 have yi:=dT c7
 clear c7
 have H':=aM H
 clear H
 obtain⟨yf,⟨⟩,yb,yj,yk⟩:=zI HR0.out a1
 replace yb:=zW HB yb
 go_wp2
 go_loopg [7,21] kj2 (fun kq v7 v21 w'=>∃ (yc:List Int) (ya:Int),v21=.int .i64 ya∧Aside0 (faw.l0 kq l0 a1 yc (rd l0 a1) ya=some (r1,r2,r3))∧Aside0 (kq≤kj2)∧Aside0 (Kd.R (Kd.int .i64) 3 w' w.heap.size (fun _=>True) v7 yc)∧Aside0 (Below w.heap.size w w'))
 case atStart=>exact⟨(([]:List Int)),(0),(pF),H',⟨Nat.le_refl _⟩,⟨pN⟩,⟨qB HB⟩⟩
 clear H'
 try clear c5
 try clear yh
 try clear yi
 try clear yb
 try clear yj
 try clear yk
 obtain⟨yc,ya,rfl,HA,HK2,za,HB⟩:=hrel
 cases gk with
 | zero=>exact absurd HA.out (by simp[faw.l0])
 | succ k2=>?_
 have H:=HA.out
 clear HA
 simp only[faw.l0] at H
 by_cases c8:ya<(rd l0 a1)
 rotate_left
 ·rw[iN c8] at H
  have yl:=dF c8
  clear c8
  replace H:=oB H
  obtain⟨⟨t760,t761,t762⟩,zd,H⟩:=H
  try dsimp only at H
  have A13:=aM zd
  clear zd
  replace H:=oi3 H
  obtain⟨rfl,rfl,rfl⟩:=H
  obtain⟨ym,yn,yo⟩:=Kd.R_slice za.out
  subst yo
  go_wp2_with (first|((with_reducible refine gC 66 rfl ?_);refine gL 38 Try.func66 #[.slice (some yf) l0.length c0,.int .i64 a1,.slice ym yc.length yn] ?_;(with_reducible refine(fbb.calls k2 _ _ l0 a1 _ _ yc t760 t761 t762 _ ?s1 HC0.out ?s3 ?s4 A13.out).mono ?_);(case s1=>exact sC HR0 HB);(case s3=>exact sR za);(case s4=>exact sL za);rintro e w15 ⟨v763,v765,rfl,ho0,ho1,hb⟩;refine⟨_,rfl,?_⟩;have HO764:=aM (Kd.R_lower (Kd.R_new' ho0 (Kd.R_lt (pR za.out))) (below_size (qB HB)));have HO766:=aM (Kd.R_lower (Kd.R_new' ho1 (Kd.R_lt (pR za.out))) (below_size (qB HB)));replace za:=eR2 za ho0 ho1 hb;replace HB:=bS (qB HB) hb))
  go_ret3
  exact⟨_,_,pE,by(with_reducible repeat(first|apply rA|apply rN|apply rD));exact Kd.R_mono HO764.out (fun _ hk=>hk.1),by(with_reducible repeat(first|apply rA|apply rN|apply rD));exact Kd.R_mono HO766.out (fun _ hk=>hk.1),qB HB⟩
 rw[ip c8] at H
 have yl:=dT c8
 clear c8
 by_cases c9:0≤a1
 rotate_left
 ·rw[iN c9] at H
  cases H
 rw[ip c9] at H
 have c9b0:=dT c9
 clear c9
 by_cases c10:a1<(l0.length:Int)
 rotate_left
 ·rw[iN c10] at H
  cases H
 rw[ip c10] at H
 have c10b0:=dT c10
 clear c10
 by_cases c11:yc.length<17592186044416
 rotate_left
 ·rw[iN c11] at H
  cases H
 rw[ip c11] at H
 have LMc11:=aM c11
 clear c11
 obtain⟨ze,zc⟩:∃ y_:List Int,y_=(yc++[wrap64 ((wrap64 ((rd l0 a1)-1))-ya)]):=⟨_,rfl⟩
 replace H:(faw.l0 k2 l0 a1 ze (rd l0 a1) (wrap64 (ya+1)))=some (r1,r2,r3):=pH zc H
 have Ny757:=aM zc
 clear zc
 have H':=aM H
 clear H
 obtain⟨yg,yp,ye,p756,q756⟩:=zI HR0.out a1
 obtain rfl:yf=yg:=(by injection yp)
 replace ye:=zW HB ye
 go_wp2_with (first|((with_reducible refine gate_builtin (b:=.append) (xs:=#[.tmp 24,.tmp 32]) rfl ?_);(try (refine gate_guard (by rfl) ?_;dsimp only));at_builtin;refine Kd.R_append (Kd.int .i64) (w0:=w) w.heap.size rfl (.tmp 24) (.tmp 32) 22 3 (.int .i64 0) 8 rfl Try.underlying22 info3 rfl (by decide) (by omega) u7 yc (wrap64 ((wrap64 ((rd l0 a1)-1))-ya)) [.int .i64 (wrap64 ((wrap64 ((rd l0 a1)-1))-ya))] (fun _=>True) (fun _=>False) rfl rfl ?aP (fun _ hk=>hk.elim) ?aF ?aO ?aB ?aS ?aL ?_;(case aP=>exact rfl);(case aB=>exact(qB HB));(case aF=>exact(fun _ _=>trivial));(case aO=>exact(pR za.out));(case aS=>exact(below_size (qB HB)));(case aL=>have:=LMc11.out;omega);intro v758 w12 ho hb hg hat;rw[← Ny757.out] at ho;replace HB:=aM (hb);have HO759:=aM (ho);clear za;clear ho hb hg hat))
 go_roundg k2
 case measure=>have:=HJ2.out;have:=HK2.out;omega
 case rel=>exact⟨(ze),(wrap64 (ya+1)),(pF),H',⟨pO2 HJ2 HK2⟩,⟨pR HO759.out⟩,⟨qB HB⟩⟩
mutual
def fak.j0:Nat→List Int→List Int→Bool→Option (List Int×Int)
 | 0,_,_,_=>none
 | k+1,x0,x1,x31=>if x31=true then(some (([]:List Int),10))else(fak.l0 k x0 x1 ([]:List Int) (x1.length:Int) 0)
def fak.l0:Nat→List Int→List Int→List Int→Int→Int→Option (List Int×Int)
 | 0,_,_,_,_,_=>none
 | k+1,x0,x1,x9,x33,x34=>if x34<x33 then(if 0≤x34 then(if x34<(x1.length:Int)then(if 0≤(rd x1 x34)then(if(rd x1 x34)<(x0.length:Int)then(if x9.length<17592186044416 then(fak.l0 k x0 x1 (x9++[rd x0 (rd x1 x34)]) x33 (wrap64 (x34+1)))else(none))else(none))else(none))else(none))else(none))else(some (x9,0))
end
def fak.f (k:Nat) (l0 l1:List Int):Option (List Int×Int):=(fag.f k l0).bind fun za=>(if za=0 then((faf.f k (l0.length:Int) l1).bind fun bt621=>(if bt621.2=0 then(fak.j0 k l0 l1 ((l1.length:Int) != (l0.length:Int)))else(fak.j0 k l0 l1 true)))else(some (([]:List Int),za)))
theorem fak.calls (k:Nat)(A0:Option Addr)(c0:Nat)(l0:List Int)(A1:Option Addr)(c1:Nat)(l1 r1:List Int)(r2:Int)(w:World)(hr0:Kd.C (Kd.int .i64) w A0 l0.length l0)(hc0:l0.length≤c0)(hr1:Kd.C (Kd.int .i64) w A1 l1.length l1)(hc1:l1.length≤c1)(h:fak.f k l0 l1=some (r1,r2)) :
  Calls Try.prog 94 #[.slice A0 l0.length c0,.slice A1 l1.length c1] w fun e w'=>∃ v0_:Value,e=.returned (.tuple #[v0_,.int .i64 r2])∧Kd.R (Kd.int .i64) 3 w' w.heap.size (fun _=>True) v0_ r1∧Below w.heap.size w w':=by
 have HR0:=aM hr0
 have HC0:=aM hc0
 clear hr0 hc0
 have HR1:=aM hr1
 have HC1:=aM hc1
 clear hr1 hc1
 have HB:=aM (Below.refl w.heap.size w)
 have H:((fag.f k l0).bind fun za=>(if za=0 then((faf.f k (l0.length:Int) l1).bind fun bt621=>(if bt621.2=0 then(fak.j0 k l0 l1 ((l1.length:Int) != (l0.length:Int)))else(fak.j0 k l0 l1 true)))else(some (([]:List Int),za))))=some (r1,r2):=h
 clear h
 replace H:=oB H
 obtain⟨za,A30,H⟩:=H
 try dsimp only at H
 have A3:=aM A30
 clear A30
 by_cases c4:za=0
 rotate_left
 ·rw[iN c4] at H
  have zf:=bF c4
  have zg:=nT c4
  replace H:=oi2 H
  obtain⟨rfl,rfl⟩:=H
  go_enter Try.func94,Try.ntmps94
  go_wp2_with (first|((with_reducible refine gC 30 rfl ?_);refine gL 12 Try.func30 #[.slice A0 l0.length c0] ?_;(with_reducible refine(fag.calls k _ _ l0 za _ ?s1 HC0.out A3.out).mono ?_);(case s1=>exact pC HR0.out);rintro e w' ⟨rfl,⟨nd,rfl⟩⟩;refine⟨_,rfl,?_⟩))
  go_ret2
  exact⟨_,pE,pN,qB HB⟩
 rw[ip c4] at H
 have zf:=bT c4
 have zg:=nF c4
 clear c4
 replace H:=oB H
 obtain⟨⟨t621,zb⟩,A50,H⟩:=H
 try dsimp only at H
 have A5:=aM A50
 clear A50
 have HC6:=aM H
 clear H
 go_enter Try.func94,Try.ntmps94
 go_upto_region 5 with(first|((with_reducible refine gC 30 rfl ?_);refine gL 12 Try.func30 #[.slice A0 l0.length c0] ?_;(with_reducible refine(fag.calls k _ _ l0 za _ ?s1 HC0.out A3.out).mono ?_);(case s1=>exact pC HR0.out);rintro e w' ⟨rfl,⟨nd,rfl⟩⟩;refine⟨_,rfl,?_⟩)|((with_reducible refine gC 93 rfl ?_);refine gL 20 Try.func93 #[.int .i64 (l0.length:Int),.slice A1 l1.length c1] ?_;(with_reducible refine(faf.calls k (l0.length:Int) _ _ l1 t621 zb _ ?s1 HC1.out A5.out).mono ?_);(case s1=>exact pC HR1.out);rintro e w7 ⟨v623,rfl,ho0,hb⟩;refine⟨_,rfl,?_⟩;have HO624:=aM (Kd.R_lower ho0 (below_size (qB HB)));replace HB:=bS (qB HB) hb))
 (try simp only[Act.put,sP])
 go_cut [31] (fun v31 wc=>∃ (kq:Nat) (yb:Bool),v31=.bool yb∧Aside0 (fak.j0 kq l0 l1 yb=some (r1,r2))∧Aside0 (kq≤k)∧Aside0 (Below w.heap.size w wc))
 case first =>
  have H:=HC6.out
  clear HC6
  by_cases c8:zb=0
  rotate_left
  ·rw[iN c8] at H
   have zc:=bF c8
   have yg:=nT c8
   (first|rw[zc]|(simp only[i64_w,i32_w];rw[zc])|skip)
   have H':=aM H
   clear H
   go_wp2
   go_meet
   case rel=>exact⟨_,(true),(pF),H',⟨pO⟩,⟨qB HB⟩⟩
  rw[ip c8] at H
  have zc:=bT c8
  have yg:=nF c8
  clear c8
  (first|rw[zc]|(simp only[i64_w,i32_w];rw[zc])|skip)
  have H':=aM H
  clear H
  go_wp2
  go_meet
  case rel=>exact⟨_,(((l1.length:Int) != (l0.length:Int))),(pF),H',⟨pO⟩,⟨qB HB⟩⟩
 clear HC6
 try clear c1
 try clear zf
 try clear zg
 obtain⟨kq,yb,rfl,HA,HJ5,HB⟩:=hcut
 cases kq with
 | zero=>exact absurd HA.out (by simp[fak.j0])
 | succ kj5=>?_
 have H:=HA.out
 clear HA
 simp only[fak.j0] at H
 by_cases c9:yb=true
 ·subst c9
  rw[ip rfl] at H
  replace H:=oi2 H
  obtain⟨rfl,rfl⟩:=H
  go_wp2
  go_ret2
  exact⟨_,pE,pN,qB HB⟩
 replace c9:=Bool.eq_false_iff.mpr c9
 subst c9
 rw[iN fT] at H
 have H':=aM H
 clear H
 go_wp2
 go_loopg [9,34] kj5 (fun kq v9 v34 w'=>∃ (ye:List Int) (ya:Int),v34=.int .i64 ya∧Aside0 (fak.l0 kq l0 l1 ye (l1.length:Int) ya=some (r1,r2))∧Aside0 (kq≤kj5)∧Aside0 (Kd.R (Kd.int .i64) 3 w' w.heap.size (fun _=>True) v9 ye)∧Aside0 (Below w.heap.size w w'))
 case atStart=>exact⟨(([]:List Int)),(0),(pF),H',⟨Nat.le_refl _⟩,⟨pN⟩,⟨qB HB⟩⟩
 clear H'
 try clear c9
 obtain⟨ye,ya,rfl,HA,HK2,ze,HB⟩:=hrel
 cases gk with
 | zero=>exact absurd HA.out (by simp[fak.l0])
 | succ k2=>?_
 have H:=HA.out
 clear HA
 simp only[fak.l0] at H
 by_cases c10:ya<(l1.length:Int)
 rotate_left
 ·rw[iN c10] at H
  have yf:=dF c10
  clear c10
  replace H:=oi2 H
  obtain⟨rfl,rfl⟩:=H
  go_wp2
  go_ret2
  exact⟨_,pE,pR ze.out,qB HB⟩
 rw[ip c10] at H
 have yf:=dT c10
 clear c10
 by_cases c11:0≤ya
 rotate_left
 ·rw[iN c11] at H
  cases H
 rw[ip c11] at H
 have c11b0:=dT c11
 clear c11
 by_cases c12:ya<(l1.length:Int)
 rotate_left
 ·rw[iN c12] at H
  cases H
 rw[ip c12] at H
 have c12b0:=dT c12
 clear c12
 by_cases c13:0≤(rd l1 ya)
 rotate_left
 ·rw[iN c13] at H
  cases H
 rw[ip c13] at H
 have c13b0:=dT c13
 clear c13
 by_cases c14:(rd l1 ya)<(l0.length:Int)
 rotate_left
 ·rw[iN c14] at H
  cases H
 rw[ip c14] at H
 have c14b0:=dT c14
 clear c14
 by_cases c15:ye.length<17592186044416
 rotate_left
 ·rw[iN c15] at H
  cases H
 rw[ip c15] at H
 have LMc15:=aM c15
 clear c15
 obtain⟨zh,zd⟩:∃ y_:List Int,y_=(ye++[rd l0 (rd l1 ya)]):=⟨_,rfl⟩
 replace H:(fak.l0 k2 l0 l1 zh (l1.length:Int) (wrap64 (ya+1)))=some (r1,r2):=pH zd H
 have Ny627:=aM zd
 clear zd
 have H':=aM H
 clear H
 obtain⟨ad625,⟨⟩,yc,p625,q625⟩:=zI HR1.out ya
 replace yc:=zW HB yc
 obtain⟨ad626,⟨⟩,yd,p626,q626⟩:=zI HR0.out (rd l1 ya)
 replace yd:=zW HB yd
 go_wp2_with (first|((with_reducible refine gate_builtin (b:=.append) (xs:=#[.tmp 37,.tmp 45]) rfl ?_);(try (refine gate_guard (by rfl) ?_;dsimp only));at_builtin;refine Kd.R_append (Kd.int .i64) (w0:=w) w.heap.size rfl (.tmp 37) (.tmp 45) 22 3 (.int .i64 0) 8 rfl Try.underlying22 info3 rfl (by decide) (by omega) u9 ye (rd l0 (rd l1 ya)) [.int .i64 (rd l0 (rd l1 ya))] (fun _=>True) (fun _=>False) rfl rfl ?aP (fun _ hk=>hk.elim) ?aF ?aO ?aB ?aS ?aL ?_;(case aP=>exact rfl);(case aB=>exact(qB HB));(case aF=>exact(fun _ _=>trivial));(case aO=>exact(pR ze.out));(case aS=>exact(below_size (qB HB)));(case aL=>have:=LMc15.out;omega);intro v628 w16 ho hb hg hat;rw[← Ny627.out] at ho;replace HB:=aM (hb);have HO629:=aM (ho);clear ze;clear ho hb hg hat))
 go_roundg k2
 case measure=>have:=HJ5.out;have:=HK2.out;omega
 case rel=>exact⟨(zh),(wrap64 (ya+1)),(pF),H',⟨pO2 HJ5 HK2⟩,⟨pR HO629.out⟩,⟨qB HB⟩⟩
mutual
def fax.l0:Nat→List Int→List Int→List Int→List (List Int)→List Int→Int→Int→Option (List Int×List Int×Int)
 | 0,_,_,_,_,_,_,_=>none
 | k+1,x0,x1,x7,x9,x10,x26,x27=>if x27<x26 then(if 0≤(x0.length:Int)then(if((x0.length:Int):Int).toNat≤35184372088832 then(fax.l1 k x0 x1 x7 x9 x10 x27 (List.replicate ((x0.length:Int):Int).toNat 0) x26 x27 (x1.length:Int) 0)else(none))else(none))else(some (x7,x10,0))
def fax.l1:Nat→List Int→List Int→List Int→List (List Int)→List Int→Int→List Int→Int→Int→Int→Int→Option (List Int×List Int×Int)
 | 0,_,_,_,_,_,_,_,_,_,_,_=>none
 | k+1,x0,x1,x7,x9,x10,x11,x12,x26,x27,x34,x35=>if x35<x34 then(if 0≤x35 then(if x35<(x1.length:Int)then(if 0≤x11 then(if x11<(x9.length:Int)then(if x35<((rd_L1 x9 x11).length:Int)then(if 0≤(rd x1 x35)then(if(rd x1 x35)<(x12.length:Int)then(fax.l1 k x0 x1 x7 x9 x10 x11 (x12.set ((rd x1 x35):Int).toNat (rd (rd_L1 x9 x11) x35)) x26 x27 x34 (wrap64 (x35+1)))else(none))else(none))else(none))else(none))else(none))else(none))else(none))else((fbc.f k x0 x12).bind fun zk=>(if x10.length<17592186044416 then(fax.l0 k x0 x1 x7 x9 (x10++[zk]) x26 (wrap64 (x27+1)))else(none)))
end
def fax.f (k:Nat) (l0 l1:List Int):Option (List Int×List Int×Int):=(fak.f k l0 l1).bind fun bt630=>(if bt630.2=0 then((fan.f k bt630.1).bind fun za=>(fax.l0 k l0 l1 bt630.1 za ([]:List Int) (za.length:Int) 0))else(some (([]:List Int),([]:List Int),bt630.2)))
def fax.T13:TT:=(true,[([],[]),([],[]),([],[]),([1,2],[1,2]),([3],[3]),([],[]),([],[]),([5,6],[5,6]),([7],[7]),([],[]),([8,9],[8,9]),([10],[10]),([0,4,0,1,2,3,4,5,6,7,8,9,10,11],[0,4]),([12,11,0,1,2,3,4,5,6,7,8,9,10,11],[11,12])])
def fax.B13:List Nat:=[0,0,0,6,14,0,0,96,224,0,992,2016,4095,8191]
theorem fax.tab13:rtab .any (opsOf Try.f84 13)=fax.T13:=by kernel_rfl
theorem fax.bits13:waitsOk fax.T13.2 fax.B13=true:=by kernel_rfl
theorem fax.calls (k:Nat)(A0:Option Addr)(c0:Nat)(l0:List Int)(A1:Option Addr)(c1:Nat)(l1 r1 r2:List Int)(r3:Int)(w:World)(hr0:Kd.C (Kd.int .i64) w A0 l0.length l0)(hc0:l0.length≤c0)(hr1:Kd.C (Kd.int .i64) w A1 l1.length l1)(hc1:l1.length≤c1)(h:fax.f k l0 l1=some (r1,r2,r3)) :
  Calls Try.prog 84 #[.slice A0 l0.length c0,.slice A1 l1.length c1] w fun e w'=>∃ v0_ v1_:Value,e=.returned (.tuple #[v0_,v1_,.int .i64 r3])∧Kd.R (Kd.int .i64) 3 w' w.heap.size (fun k_=>some k_≠(v1_:Value).ownBlock) v0_ r1∧Kd.R (Kd.int .i64) 3 w' w.heap.size (fun k_=>some k_≠(v0_:Value).ownBlock) v1_ r2∧Below w.heap.size w w':=by
 have HR0:=aM hr0
 have HC0:=aM hc0
 clear hr0 hc0
 have HR1:=aM hr1
 have HC1:=aM hc1
 clear hr1 hc1
 have HB:=aM (Below.refl w.heap.size w)
 have H:((fak.f k l0 l1).bind fun bt630=>(if bt630.2=0 then((fan.f k bt630.1).bind fun za=>(fax.l0 k l0 l1 bt630.1 za ([]:List Int) (za.length:Int) 0))else(some (([]:List Int),([]:List Int),bt630.2))))=some (r1,r2,r3):=h
 clear h
 replace H:=oB H
 obtain⟨⟨zg,zi⟩,A30,H⟩:=H
 try dsimp only at H
 have A3:=aM A30
 clear A30
 by_cases c4:zi=0
 rotate_left
 ·rw[iN c4] at H
  have zw:=bF c4
  have zx:=nT c4
  replace H:=oi3 H
  obtain⟨rfl,rfl,rfl⟩:=H
  go_enter Try.func84,Try.ntmps84
  go_wp2_with (first|((with_reducible refine gC 94 rfl ?_);refine gL 17 Try.func94 #[.slice A0 l0.length c0,.slice A1 l1.length c1] ?_;(with_reducible refine(fak.calls k _ _ l0 _ _ l1 zg zi _ ?s1 HC0.out ?s3 HC1.out A3.out).mono ?_);(case s1=>exact pC HR0.out);(case s3=>exact pC HR1.out);rintro e w30 ⟨v632,rfl,ho0,hb⟩;refine⟨_,rfl,?_⟩;have zf:=aM (Kd.R_lower ho0 (below_size (qB HB)));replace HB:=bS (qB HB) hb))
  go_ret3
  exact⟨_,_,pE,pN,pN,qB HB⟩
 rw[ip c4] at H
 have zw:=bT c4
 have zx:=nF c4
 clear c4
 replace H:=oB H
 obtain⟨za,A50,H⟩:=H
 try dsimp only at H
 have A5:=aM A50
 clear A50
 have H':=aM H
 clear H
 go_enter Try.func84,Try.ntmps84
 go_wp2_with (first|((with_reducible refine gC 94 rfl ?_);refine gL 17 Try.func94 #[.slice A0 l0.length c0,.slice A1 l1.length c1] ?_;(with_reducible refine(fak.calls k _ _ l0 _ _ l1 zg zi _ ?s1 HC0.out ?s3 HC1.out A3.out).mono ?_);(case s1=>exact pC HR0.out);(case s3=>exact pC HR1.out);rintro e w6 ⟨v632,rfl,ho0,hb⟩;refine⟨_,rfl,?_⟩;have zf:=aM (Kd.R_lower ho0 (below_size (qB HB)));replace HB:=bS (qB HB) hb;obtain⟨Ao7,co7,eo7⟩:=Kd.R_slice zf.out;subst eo7)|((with_reducible refine gC 48 rfl ?_);refine gL 24 Try.func48 #[.slice Ao7 zg.length co7] ?_;(with_reducible refine(fan.calls k _ _ zg za _ ?s1 ?s2 A5.out).mono ?_);(case s1=>exact sR zf);(case s2=>exact sL zf);rintro e w8 ⟨v635,rfl,ho0,hb⟩;refine⟨_,rfl,?_⟩;have zs:=aM (Kd.N_lower (Kd.N_mono (ok':=fun k_=>some k_≠(.slice Ao7 zg.length co7:Value).ownBlock) ho0 (fun k_ hk_=>(Kd.fresh' (Kd.R_lt (pR zf.out)) k_ hk_))) (below_size (qB HB)));replace zf:=bR zf hb;replace HB:=bS (qB HB) hb;obtain⟨Ao9,co9,eo9⟩:=Kd.N_slice zs.out;subst eo9))
 go_loopg [10,27] k (fun kq v10 v27 w'=>∃ (ye:List Int) (yf:List Int) (yb:Int),v27=.int .i64 yb∧Aside0 (fax.l0 kq l0 l1 ye za yf (za.length:Int) yb=some (r1,r2,r3))∧Aside0 (kq≤k)∧Aside0 (Kd.R (Kd.int .i64) 3 w' w.heap.size (fun k_=>some k_≠(v10:Value).ownBlock) (.slice Ao7 zg.length co7) ye)∧Aside0 (Kd.N (Kd.slice 3 (Kd.int .i64)) 22 w' w.heap.size (fun k_=>some k_≠((.slice Ao7 zg.length co7):Value).ownBlock∧some k_≠(v10:Value).ownBlock) (.slice Ao9 za.length co9) za)∧Aside0 (Kd.R (Kd.int .i64) 3 w' w.heap.size (fun k_=>some k_≠((.slice Ao7 zg.length co7):Value).ownBlock) v10 yf)∧Aside0 (Below w.heap.size w w'))
 case atStart=>exact⟨(zg),(([]:List Int)),(0),(pF),H',⟨Nat.le_refl _⟩,⟨by(with_reducible repeat(first|apply rA|apply rN|apply rD));exact Kd.R_mono zf.out (fun _ hk=>(by simp[Value.ownBlock]))⟩,⟨by(with_reducible repeat(first|apply Kd.N_alloc|apply Kd.N_drewN|apply Kd.N_drew));exact Kd.N_mono zs.out (fun _ hk=>⟨hk,(by simp[Value.ownBlock])⟩)⟩,⟨pN⟩,⟨qB HB⟩⟩
 clear H'
 try clear c1
 try clear zw
 try clear zx
 obtain⟨ye,yf,yb,rfl,HA,HK1,zd,ze,zb,HB⟩:=hrel
 have yc:=(Kd.R_reads' zd.out).1
 rw[yc] at zd
 (try simp only[yc])
 (try simp only[yc] at ze)
 (try simp only[yc] at zb)
 cases gk with
 | zero=>exact absurd HA.out (by simp[fax.l0])
 | succ k1=>?_
 have H:=HA.out
 clear HA
 simp only[fax.l0] at H
 by_cases c10:yb<(za.length:Int)
 rotate_left
 ·rw[iN c10] at H
  have zj:=dF c10
  (try simp only[yc] at zj)
  clear c10
  replace H:=oi3 H
  obtain⟨rfl,rfl,rfl⟩:=H
  go_wp2
  go_ret3
  exact⟨_,_,pE,pR zd.out,pR zb.out,qB HB⟩
 rw[ip c10] at H
 have zj:=dT c10
 (try simp only[yc] at zj)
 clear c10
 by_cases c11:0≤(l0.length:Int)
 rotate_left
 ·rw[iN c11] at H
  cases H
 rw[ip c11] at H
 have yt:=eq_true c11
 have zt:=dT c11
 (try simp only[yc] at zt)
 clear c11
 by_cases c12:((l0.length:Int):Int).toNat≤35184372088832
 rotate_left
 ·rw[iN c12] at H
  cases H
 rw[ip c12] at H
 have yu:=eq_true c12
 have zu:=dT c12
 (try simp only[yc] at zu)
 clear c12
 obtain⟨zy,zl⟩:∃ y_:List Int,y_=(List.replicate ((l0.length:Int):Int).toNat 0):=⟨_,rfl⟩
 replace H:(fax.l1 k1 l0 l1 ye za yf yb zy (za.length:Int) yb (l1.length:Int) 0)=some (r1,r2,r3):=pH zl H
 have zv:=aM zl
 clear zl
 have H':=aM H
 clear H
 go_wp2_with (first|((with_reducible refine gD 32 rfl ?_);refine Kd.R_make (Kd.int .i64) _ 3 rfl (N:=32) rfl 22 _ _ rfl (l0.length:Int) rfl rfl Try.underlying22 (.int .i64 0) 8 info3 rfl (by decide) (by omega) 0 (ok:=fun _=>True) (okp:=fun _=>True) rfl (fun _ hk=>hk) trivial (of_decide_eq_true pD) (Nat.le_trans (Nat.mul_le_mul_right _ (of_decide_eq_true pD:(l0.length:Int).toNat≤35184372088832)) (by omega)) (Below.refl _ _) (Nat.le_refl _) ?_;intro zp w13 ho14 hb hg_ hnew_;clear hg_ hnew_;(first|rw[← zv.out] at ho14|(simp only[Int.reduceToNat] at ho14;rw[← zv.out] at ho14));replace ze:=aM (Kd.N_elder' (by(with_reducible repeat(first|apply Kd.N_alloc|apply Kd.N_drewN|apply Kd.N_drew));exact ze.out) (Kd.R_base ho14) hb);have HO639:=aM (Kd.R_lower (Kd.R_new' (Kd.R_new' ho14 (Kd.R_lt (pR zd.out))) (Kd.R_lt (pR zb.out))) (below_size (qB HB)));replace zd:=eR zd ho14 hb;replace zb:=eR zb ho14 hb;replace HB:=bS (qB HB) hb;clear hb ho14))
 go_loopg [35] k1 (fun kq v35 w'=>∃ (yd:List Int) (ya:Int),v35=.int .i64 ya∧Aside0 (fax.l1 kq l0 l1 ye za yf yb yd (za.length:Int) yb (l1.length:Int) ya=some (r1,r2,r3))∧Aside0 (kq≤k1)∧Aside0 (Kd.R (Kd.int .i64) 3 w' w.heap.size (fun k_=>some k_≠(u10:Value).ownBlock∧some k_≠(zp:Value).ownBlock) (.slice Ao7 ye.length co7) ye)∧Aside0 (Kd.N (Kd.slice 3 (Kd.int .i64)) 22 w' w.heap.size (fun k_=>some k_≠((.slice Ao7 ye.length co7):Value).ownBlock∧some k_≠(u10:Value).ownBlock∧some k_≠(zp:Value).ownBlock) (.slice Ao9 za.length co9) za)∧Aside0 (Kd.R (Kd.int .i64) 3 w' w.heap.size (fun k_=>some k_≠((.slice Ao7 ye.length co7):Value).ownBlock∧some k_≠(zp:Value).ownBlock) u10 yf)∧Aside0 (Kd.R (Kd.int .i64) 3 w' w.heap.size (fun k_=>some k_≠((.slice Ao7 ye.length co7):Value).ownBlock∧some k_≠(u10:Value).ownBlock) zp yd)∧Aside0 (Below w.heap.size w w'))
 case atStart=>exact⟨(zy),(0),(pF),H',⟨Nat.le_refl _⟩,⟨by(try simp only[yc]);(with_reducible repeat(first|apply rA|apply rN|apply rD));exact zd.out⟩,⟨by(try simp only[yc]);(with_reducible repeat(first|apply Kd.N_alloc|apply Kd.N_drewN|apply Kd.N_drew));exact Kd.N_mono ze.out (fun _ hk=>⟨hk.1.1,⟨hk.1.2,hk.2⟩⟩)⟩,⟨by(try simp only[yc]);(with_reducible repeat(first|apply rA|apply rN|apply rD));exact zb.out⟩,⟨by(try simp only[yc]);(with_reducible repeat(first|apply rA|apply rN|apply rD));exact Kd.R_mono HO639.out (fun _ hk=>⟨hk.1.2,hk.2⟩)⟩,⟨qB HB⟩⟩
 clear H'
 try clear zj
 try clear yt
 try clear zt
 try clear yu
 try clear zu
 obtain⟨yd,ya,rfl,HA,HK2,zd,ze,zb,zc,HB⟩:=hrel
 cases gk with
 | zero=>exact absurd HA.out (by simp[fax.l1])
 | succ k2=>?_
 have H:=HA.out
 clear HA
 simp only[fax.l1] at H
 by_cases c15:ya<(l1.length:Int)
 rotate_left
 ·rw[iN c15] at H
  have zm:=dF c15
  (try simp only[yc] at zm)
  clear c15
  replace H:=oB H
  obtain⟨zk,zz,H⟩:=H
  try dsimp only at H
  have A26:=aM zz
  clear zz
  by_cases c27:yf.length<17592186044416
  rotate_left
  ·rw[iN c27] at H
   cases H
  rw[ip c27] at H
  have LMc27:=aM c27
  clear c27
  obtain⟨z0,zn⟩:∃ y_:List Int,y_=(yf++[zk]):=⟨_,rfl⟩
  replace H:(fax.l0 k2 l0 l1 ye za z0 (za.length:Int) (wrap64 (yb+1)))=some (r1,r2,r3):=pH zn H
  have Ny645:=aM zn
  clear zn
  have H':=aM H
  clear H
  obtain⟨zq,zr,y3⟩:=Kd.R_slice zc.out
  subst y3
  go_wp2_with (first|((with_reducible refine gC 88 rfl ?_);refine gL 55 Try.func88 #[.slice A0 l0.length c0,.slice zq yd.length zr] ?_;(with_reducible refine(fbc.calls k2 _ _ l0 _ _ yd zk _ ?s1 HC0.out ?s3 ?s4 A26.out).mono ?_);(case s1=>exact sC HR0 HB);(case s3=>exact sR zc);(case s4=>exact sL zc);rintro e w' ⟨rfl,⟨nd,rfl⟩⟩;refine⟨_,rfl,?_⟩)|((with_reducible refine gate_builtin (b:=.append) (xs:=#[.tmp 52,.tmp 56]) rfl ?_);at_builtin;refine Kd.R_append (Kd.int .i64) (w0:=w) w.heap.size rfl (.tmp 52) (.tmp 56) 22 3 (.int .i64 0) 8 rfl Try.underlying22 info3 rfl (by decide) (by omega) u10 yf zk [.int .i64 zk] (fun k_=>some k_≠(.slice Ao7 ye.length co7:Value).ownBlock∧some k_≠(.slice zq yd.length zr:Value).ownBlock) (fun _=>False) rfl rfl ?aP (fun _ hk=>hk.elim) ?aF ?aO ?aB ?aS ?aL ?_;(case aP=>exact rfl);(case aB=>exact(qB HB));(case aF=>exact(fun k_ hk=>⟨Kd.fresh' (Kd.R_lt (pR zd.out)) k_ hk,Kd.fresh' (Kd.R_lt (pR zc.out)) k_ hk⟩));(case aO=>exact(pR zb.out));(case aS=>exact(below_size (qB HB)));(case aL=>have:=LMc27.out;omega);intro v646 w29 ho hb hg hat;rw[← Ny645.out] at ho;replace zd:=aM (Kd.R_after (ok:=(fun k_=>some k_≠(.slice zq yd.length zr:Value).ownBlock)) (by(with_reducible repeat(first|apply rA|apply rN|apply rD));exact Kd.R_mono zd.out (fun _ hk=>⟨hk.2,hk.1⟩)) hg hat);replace ze:=aM (Kd.N_afterv (ok:=(fun k_=>some k_≠(.slice Ao7 ye.length co7:Value).ownBlock∧some k_≠(.slice zq yd.length zr:Value).ownBlock)) (by(with_reducible repeat(first|apply Kd.N_alloc|apply Kd.N_drewN|apply Kd.N_drew));exact Kd.N_mono ze.out (fun _ hk=>⟨⟨hk.1,hk.2.2⟩,hk.2.1⟩)) hg hat);replace zc:=aM (Kd.R_after (ok:=(fun k_=>some k_≠(.slice Ao7 ye.length co7:Value).ownBlock)) (pR zc.out) hg hat);replace HB:=aM (hb);have HO647:=aM (ho);clear zb;clear ho hb hg hat))
  (try simp only[← yc])
  go_roundg k2
  case measure=>have:=HK1.out;have:=HK2.out;omega
  case rel=>exact⟨(ye),(z0),(wrap64 (yb+1)),(pF),H',⟨pO2 HK1 HK2⟩,⟨by(try simp only[yc]);(with_reducible repeat(first|apply rA|apply rN|apply rD));exact Kd.R_mono zd.out (fun _ hk=>hk.2)⟩,⟨by(try simp only[yc]);(with_reducible repeat(first|apply Kd.N_alloc|apply Kd.N_drewN|apply Kd.N_drew));exact Kd.N_mono ze.out (fun _ hk=>⟨hk.1.1,hk.2⟩)⟩,⟨by(try simp only[yc]);(with_reducible repeat(first|apply rA|apply rN|apply rD));exact Kd.R_mono HO647.out (fun _ hk=>hk.1)⟩,⟨qB HB⟩⟩
 rw[ip c15] at H
 have zm:=dT c15
 (try simp only[yc] at zm)
 clear c15
 by_cases c16:0≤ya
 rotate_left
 ·rw[iN c16] at H
  cases H
 rw[ip c16] at H
 have c16b0:=dT c16
 clear c16
 by_cases c17:ya<(l1.length:Int)
 rotate_left
 ·rw[iN c17] at H
  cases H
 rw[ip c17] at H
 have yv:=dT c17
 (try simp only[yc] at yv)
 clear c17
 by_cases c18:0≤yb
 rotate_left
 ·rw[iN c18] at H
  cases H
 rw[ip c18] at H
 have c18b0:=dT c18
 clear c18
 by_cases c19:yb<(za.length:Int)
 rotate_left
 ·rw[iN c19] at H
  cases H
 rw[ip c19] at H
 have yw:=dT c19
 (try simp only[yc] at yw)
 clear c19
 by_cases c20:ya<((rd_L1 za yb).length:Int)
 rotate_left
 ·rw[iN c20] at H
  cases H
 rw[ip c20] at H
 have yx:=dT c20
 (try simp only[yc] at yx)
 clear c20
 by_cases c21:0≤(rd l1 ya)
 rotate_left
 ·rw[iN c21] at H
  cases H
 rw[ip c21] at H
 have c21b0:=dT c21
 clear c21
 by_cases c22:(rd l1 ya)<(yd.length:Int)
 rotate_left
 ·rw[iN c22] at H
  cases H
 rw[ip c22] at H
 have yy:=dT c22
 (try simp only[yc] at yy)
 clear c22
 obtain⟨z1,zo⟩:∃ y_:List Int,y_=(yd.set ((rd l1 ya):Int).toNat (rd (rd_L1 za yb) ya)):=⟨_,rfl⟩
 replace H:(fax.l1 k2 l0 l1 ye za yf yb z1 (za.length:Int) yb (l1.length:Int) (wrap64 (ya+1)))=some (r1,r2,r3):=pH zo H
 have Ny643:=aM zo
 clear zo
 have H':=aM H
 clear H
 try go_wp2
 replace zd:=aM (Kd.R_drew zd.out)
 replace ze:=aM (Kd.N_drew ze.out)
 replace zb:=aM (Kd.R_drew zb.out)
 replace zc:=aM (Kd.R_drew zc.out)
 replace HB:=aM (below_drew1 HB.out)
 obtain⟨yz,⟨⟩,yh,p640,q640⟩:=zI HR1.out ya
 have yn:=zW HB yh
 have y0:0≤(yb:Int):=oD
 have y1:yb<(za.length:Int):=oD
 obtain⟨y2,A641_0,yp,y4,yg,yi,yj⟩:=at_L1 (Kd.N_reads' ze.out).2.2 yb y0 y1
 cases y4
 obtain⟨ce641,yq,yr,ym⟩:=Kd.N_get ze.out [] yb y0 (by first|exact y1|exact of_decide_eq_true pD|(have e_:=(Kd.N_reads' ze.out).1;omega))
 obtain⟨ua641_0,uc641_0,rfl,ul641_0,ge641_0⟩:=Kd.FK_slice_open yr
 have hv641_0:=ym 0 _ rfl
 rw[Nat.add_zero,show ((Kd.slice 3 (Kd.int .i64))).sz=1 from rfl,Nat.mul_one] at hv641_0
 replace hv641_0:=Option.some.inj (hv641_0.symm.trans yg)
 injection hv641_0 with hva_ hvn_ hvc_
 rw[hva_] at ge641_0
 rw[hvc_] at ul641_0
 have HL641_0:=aM (show Kd.V (Kd.int .i64) 3 _ w.heap.size _ _ (rd_L1 za yb) from Kd.V_mk ul641_0 ge641_0)
 clear hva_ hvn_ hvc_ ge641_0 ul641_0
 clear ym yq
 have zh:=aM yj
 have HC641_0:=aM yi
 clear yj yi
 have y5:0≤(ya:Int):=oD
 have y6:ya<((rd_L1 za yb).length:Int):=oD
 obtain⟨yo,y7,yk⟩:=Kd.at_int (by repeat(first|(with_reducible exact zh.out)|(with_reducible refine Kd.C_alloc ?_ _)|(with_reducible refine Kd.C_drewN ?_ _)|(with_reducible refine Kd.C_drew ?_)|exact zh.out)) ya y5 y6
 cases y7
 have y8:0≤((rd l1 ya):Int):=oD
 have y9:((rd l1 ya):Int)<((yd.length:Int):Int):=oD
 obtain⟨yl,co23,z2,z3,gl23,cl23,HG23⟩:=Kd.R_form zc.out (by omega)
 (first|cases z2|(injection z2 with ea_ en_ ec_;(first|subst ea_|(injection ea_ with ea_;subst ea_));subst ec_;clear en_))
 have GB23:=aM z3
 have GG23:=aM HG23
 clear z3 gl23 HG23
 obtain⟨ys,hf23_0⟩:=Kd.R_celln 0 zc.out ((rd l1 ya):Int) y8 y9
 have HP25:=Kd.R_putn zc.out ((rd l1 ya):Int) (rd (rd_L1 za yb) ya)
 rw[← Ny643.out] at HP25
 have HQ25:=aM HP25
 clear HP25
 refine sT 14 [13] (fun w'=>w'.cell? (yz.add (ya).toNat)=some (.int .i64 (rd l1 ya))∧w'.cell? (y2.add (yb).toNat)=some (.slice (some yo) (rd_L1 za yb).length yp)∧w'.cell? (yo.add (ya).toNat)=some (.int .i64 (rd (rd_L1 za yb) ya))) fax.tab13 fax.bits13 ⟨(zW HB yh),yg,yk⟩ (fun hHeld HT_ HW_=>?_)
 generalize wr.drew=w24 at zd ze zb zc HB GG23 HL641_0 HQ25 zh hf23_0 ys yn yg yk hHeld ⊢
 refine pQ 0 38 14 1 HT_ ?_
 refine pQ 1 39 14 3 HT_ ?_
 refine pQ 2 40 14 7 HT_ ?_
 refine pQ 3 41 14 15 HT_ ?_
 refine pQ 5 43 14 47 HT_ ?_
 refine pQ 6 44 14 111 HT_ ?_
 refine pQ 7 45 14 239 HT_ ?_
 refine pQ 9 47 14 751 HT_ ?_
 refine pU3 4 42 14 767 HT_ HW_ hHeld ?_
 refine pU3 8 46 14 1023 HT_ HW_ hHeld ?_
 refine pQ 10 48 14 2047 HT_ ?_
 refine pU3 11 49 14 4095 HT_ HW_ hHeld ?_
 refine pQ 12 50 14 8191 HT_ ?_
 refine last_ (i:=13) (N:=none) (bm 14 16383) rfl rfl (one_of HT_.out (by kernel_rfl)) (by decide) (fun K hK=>?_)
 refine skip_ (w1:=?_) (by rfl) rfl ?_ ?_
 rotate_left
 ·go_simp
  rfl
 refine hK.out _ _ ?_
 clear hK K
 refine dN HT_ ?_
 try go_wp2
 go_roundg k2
 case measure=>have:=HK1.out;have:=HK2.out;omega
 case rel=>exact⟨(z1),(wrap64 (ya+1)),(pF),H',⟨pO2 HK1 HK2⟩,⟨by(try simp only[yc]);(with_reducible repeat(first|apply rA|apply rN|apply rD));exact Kd.R_mono (Kd.R_far (p:=⟨yl,((rd l1 ya):Int).toNat,none⟩) (Kd.R_mono zd.out (fun k_ hk=>(⟨hk,fun e_=>hk.2 (by rw[e_];rfl)⟩:_∧k_≠yl))) (fun _ hk=>hk.2) (.int .i64 (rd (rd_L1 za yb) ya))) (fun _ hk=>⟨hk.1.1,hk.1.2⟩)⟩,⟨by(try simp only[yc]);(with_reducible repeat(first|apply Kd.N_alloc|apply Kd.N_drewN|apply Kd.N_drew));exact Kd.N_mono (Kd.N_far (p:=⟨yl,((rd l1 ya):Int).toNat,none⟩) (Kd.N_mono ze.out (fun k_ hk=>(⟨hk,fun e_=>hk.2.2 (by rw[e_];rfl)⟩:_∧k_≠yl))) (fun _ hk=>hk.2) (.int .i64 (rd (rd_L1 za yb) ya))) (fun _ hk=>⟨hk.1.1,⟨hk.1.2.1,hk.1.2.2⟩⟩)⟩,⟨by(try simp only[yc]);(with_reducible repeat(first|apply rA|apply rN|apply rD));exact Kd.R_mono (Kd.R_far (p:=⟨yl,((rd l1 ya):Int).toNat,none⟩) (Kd.R_mono zb.out (fun k_ hk=>(⟨hk,fun e_=>hk.2 (by rw[e_];rfl)⟩:_∧k_≠yl))) (fun _ hk=>hk.2) (.int .i64 (rd (rd_L1 za yb) ya))) (fun _ hk=>⟨hk.1.1,hk.1.2⟩)⟩,⟨by(try simp only[yc]);(with_reducible repeat(first|apply rA|apply rN|apply rD));exact HQ25.out⟩,⟨qB1 HB GB23⟩⟩
def fah.l0:Nat→List Int→Int→Int→Int→Option (Int)
 | 0,_,_,_,_=>none
 | k+1,x0,x3,x9,x10=>if x10<x9 then(if 0≤x10 then(if x10<(x0.length:Int)then(fah.l0 k x0 (wrap64 (x3*(rd x0 x10))) x9 (wrap64 (x10+1)))else(none))else(none))else(some x3)
def fah.f (k:Nat) (l0:List Int):Option (Int):=(fag.f k l0).bind fun za=>(if za=0 then(fah.l0 k l0 1 (l0.length:Int) 0)else(some 0))
theorem fah.calls (k:Nat)(A0:Option Addr)(c0:Nat)(l0:List Int)(r:Int)(w:World)(hr0:Kd.C (Kd.int .i64) w A0 l0.length l0)(hc0:l0.length≤c0)(h:fah.f k l0=some r) :
  Calls Try.prog 20 #[.slice A0 l0.length c0] w fun e w'=>e=.returned (.int .i64 r)∧Drawn0 w w':=by
 have HR0:=aM hr0
 have HC0:=aM hc0
 clear hr0 hc0
 have H:((fag.f k l0).bind fun za=>(if za=0 then(fah.l0 k l0 1 (l0.length:Int) 0)else(some 0)))=some r:=h
 clear h
 replace H:=oB H
 obtain⟨za,A20,H⟩:=H
 try dsimp only at H
 have A2:=aM A20
 clear A20
 by_cases c3:za=0
 rotate_left
 ·rw[iN c3] at H
  have zb:=bF c3
  have zc:=nT c3
  obtain rfl:=Option.some.inj H
  go_enter Try.func20,Try.ntmps20
  go_wp2_with (first|((with_reducible refine gC 30 rfl ?_);refine gL 6 Try.func30 #[.slice A0 l0.length c0] ?_;(with_reducible refine(fag.calls k _ _ l0 za _ ?s1 HC0.out A2.out).mono ?_);(case s1=>exact pC HR0.out);rintro e w' ⟨rfl,⟨nd,rfl⟩⟩;refine⟨_,rfl,?_⟩))
  go_ret
  exact⟨pF,pW⟩
 rw[ip c3] at H
 have zb:=bT c3
 have zc:=nF c3
 clear c3
 have H':=aM H
 clear H
 go_enter Try.func20,Try.ntmps20
 go_wp2_with (first|((with_reducible refine gC 30 rfl ?_);refine gL 6 Try.func30 #[.slice A0 l0.length c0] ?_;(with_reducible refine(fag.calls k _ _ l0 za _ ?s1 HC0.out A2.out).mono ?_);(case s1=>exact pC HR0.out);rintro e w' ⟨rfl,⟨nd,rfl⟩⟩;refine⟨_,rfl,?_⟩))
 go_loopg [3,10] k (fun kq v3 v10 w'=>∃ (yb:Int) (ya:Int),v3=.int .i64 yb∧v10=.int .i64 ya∧Aside0 (fah.l0 kq l0 yb (l0.length:Int) ya=some r)∧Aside0 (kq≤k)∧Drawn0 w w')
 case atStart=>exact⟨(1),(0),(pF),(pF),H',⟨Nat.le_refl _⟩,pW⟩
 clear H'
 try clear zb
 try clear zc
 obtain⟨yb,ya,rfl,rfl,HA,HK1,⟨m1,rfl⟩⟩:=hrel
 cases gk with
 | zero=>exact absurd HA.out (by simp[fah.l0])
 | succ k1=>?_
 have H:=HA.out
 clear HA
 simp only[fah.l0] at H
 by_cases c4:ya<(l0.length:Int)
 rotate_left
 ·rw[iN c4] at H
  have yc:=dF c4
  clear c4
  obtain rfl:=Option.some.inj H
  go_wp2
  go_ret
  exact⟨pF,pW⟩
 rw[ip c4] at H
 have yc:=dT c4
 clear c4
 by_cases c5:0≤ya
 rotate_left
 ·rw[iN c5] at H
  cases H
 rw[ip c5] at H
 have c5b0:=dT c5
 clear c5
 by_cases c6:ya<(l0.length:Int)
 rotate_left
 ·rw[iN c6] at H
  cases H
 rw[ip c6] at H
 have c6b0:=dT c6
 clear c6
 have H':=aM H
 clear H
 obtain⟨ad591,⟨⟩,hx591_0,p591,q591⟩:=zI HR0.out ya
 go_wp2
 go_roundg k1
 case measure=>have:=HK1.out;omega
 case rel=>exact⟨(wrap64 (yb*(rd l0 ya))),(wrap64 (ya+1)),(pF),(pF),H',⟨pO1 HK1⟩,pW⟩
def fay.l0:Nat→List Int→List Int→Int→Int→Option (List Int×List Int×Int)
 | 0,_,_,_,_=>none
 | k+1,x1,x8,x21,x22=>if x22<x21 then(if x8.length<17592186044416 then(fay.l0 k x1 (x8++[x22]) x21 (wrap64 (x22+1)))else(none))else((some (([]:List Int):List Int)).bind fun zf=>(if zf.length+x1.length<17592186044416 then(some ((zf++x1),x8,0))else(none)))
def fay.f (k:Nat) (l0 l1:List Int):Option (List Int×List Int×Int):=(fag.f k l1).bind fun za=>(if za=0 then((fah.f k l1).bind fun zb=>((fah.f k l0).bind fun zc=>(if zb=zc then((fah.f k l0).bind fun zd=>(fay.l0 k l1 ([]:List Int) zd 0))else(some (([]:List Int),([]:List Int),8)))))else(some (([]:List Int),([]:List Int),za)))
theorem fay.calls (k:Nat)(A0:Option Addr)(c0:Nat)(l0:List Int)(A1:Option Addr)(c1:Nat)(l1 r1 r2:List Int)(r3:Int)(w:World)(hr0:Kd.C (Kd.int .i64) w A0 l0.length l0)(hc0:l0.length≤c0)(hr1:Kd.C (Kd.int .i64) w A1 l1.length l1)(hc1:l1.length≤c1)(h:fay.f k l0 l1=some (r1,r2,r3)) :
  Calls Try.prog 83 #[.slice A0 l0.length c0,.slice A1 l1.length c1] w fun e w'=>∃ v0_ v1_:Value,e=.returned (.tuple #[v0_,v1_,.int .i64 r3])∧Kd.R (Kd.int .i64) 3 w' w.heap.size (fun k_=>some k_≠(v1_:Value).ownBlock) v0_ r1∧Kd.R (Kd.int .i64) 3 w' w.heap.size (fun k_=>some k_≠(v0_:Value).ownBlock) v1_ r2∧Below w.heap.size w w':=by
 have HR0:=aM hr0
 have HC0:=aM hc0
 clear hr0 hc0
 have HR1:=aM hr1
 have HC1:=aM hc1
 clear hr1 hc1
 have HB:=aM (Below.refl w.heap.size w)
 have H:((fag.f k l1).bind fun za=>(if za=0 then((fah.f k l1).bind fun zb=>((fah.f k l0).bind fun zc=>(if zb=zc then((fah.f k l0).bind fun zd=>(fay.l0 k l1 ([]:List Int) zd 0))else(some (([]:List Int),([]:List Int),8)))))else(some (([]:List Int),([]:List Int),za))))=some (r1,r2,r3):=h
 clear h
 replace H:=oB H
 obtain⟨za,A30,H⟩:=H
 try dsimp only at H
 have A3:=aM A30
 clear A30
 by_cases c4:za=0
 rotate_left
 ·rw[iN c4] at H
  have zl:=bF c4
  have zm:=nT c4
  replace H:=oi3 H
  obtain⟨rfl,rfl,rfl⟩:=H
  go_enter Try.func83,Try.ntmps83
  go_wp2_with (first|((with_reducible refine gC 30 rfl ?_);refine gL 11 Try.func30 #[.slice A1 l1.length c1] ?_;(with_reducible refine(fag.calls k _ _ l1 za _ ?s1 HC1.out A3.out).mono ?_);(case s1=>exact pC HR1.out);rintro e w' ⟨rfl,⟨nd,rfl⟩⟩;refine⟨_,rfl,?_⟩))
  go_ret3
  exact⟨_,_,pE,pN,pN,qB HB⟩
 rw[ip c4] at H
 have zl:=bT c4
 have zm:=nF c4
 clear c4
 replace H:=oB H
 obtain⟨zb,A50,H⟩:=H
 try dsimp only at H
 have A5:=aM A50
 clear A50
 replace H:=oB H
 obtain⟨zc,A60,H⟩:=H
 try dsimp only at H
 have A6:=aM A60
 clear A60
 by_cases c7:zb=zc
 rotate_left
 ·rw[iN c7] at H
  have zn:=bF c7
  have zo:=nT c7
  replace H:=oi3 H
  obtain⟨rfl,rfl,rfl⟩:=H
  go_enter Try.func83,Try.ntmps83
  go_wp2_with (first|((with_reducible refine gC 30 rfl ?_);refine gL 11 Try.func30 #[.slice A1 l1.length c1] ?_;(with_reducible refine(fag.calls k _ _ l1 za _ ?s1 HC1.out A3.out).mono ?_);(case s1=>exact pC HR1.out);rintro e w' ⟨rfl,⟨nd,rfl⟩⟩;refine⟨_,rfl,?_⟩)|((with_reducible refine gC 20 rfl ?_);refine gL 16 Try.func20 #[.slice A1 l1.length c1] ?_;(with_reducible refine(fah.calls k _ _ l1 zb _ ?s1 HC1.out A5.out).mono ?_);(case s1=>exact pC HR1.out);rintro e w' ⟨rfl,⟨nd,rfl⟩⟩;refine⟨_,rfl,?_⟩)|((with_reducible refine gC 20 rfl ?_);refine gL 18 Try.func20 #[.slice A0 l0.length c0] ?_;(with_reducible refine(fah.calls k _ _ l0 zc _ ?s1 HC0.out A6.out).mono ?_);(case s1=>exact pC HR0.out);rintro e w' ⟨rfl,⟨nd,rfl⟩⟩;refine⟨_,rfl,?_⟩))
  go_ret3
  exact⟨_,_,pE,pN,pN,qB HB⟩
 rw[ip c7] at H
 have zn:=bT c7
 have zo:=nF c7
 clear c7
 replace H:=oB H
 obtain⟨zd,A80,H⟩:=H
 try dsimp only at H
 have A8:=aM A80
 clear A80
 have H':=aM H
 clear H
 go_enter Try.func83,Try.ntmps83
 go_wp2_with (first|((with_reducible refine gC 30 rfl ?_);refine gL 11 Try.func30 #[.slice A1 l1.length c1] ?_;(with_reducible refine(fag.calls k _ _ l1 za _ ?s1 HC1.out A3.out).mono ?_);(case s1=>exact pC HR1.out);rintro e w' ⟨rfl,⟨nd,rfl⟩⟩;refine⟨_,rfl,?_⟩)|((with_reducible refine gC 20 rfl ?_);refine gL 16 Try.func20 #[.slice A1 l1.length c1] ?_;(with_reducible refine(fah.calls k _ _ l1 zb _ ?s1 HC1.out A5.out).mono ?_);(case s1=>exact pC HR1.out);rintro e w' ⟨rfl,⟨nd,rfl⟩⟩;refine⟨_,rfl,?_⟩)|((with_reducible refine gC 20 rfl ?_);refine gL 18 Try.func20 #[.slice A0 l0.length c0] ?_;(with_reducible refine(fah.calls k _ _ l0 zc _ ?s1 HC0.out A6.out).mono ?_);(case s1=>exact pC HR0.out);rintro e w' ⟨rfl,⟨nd,rfl⟩⟩;refine⟨_,rfl,?_⟩)|((with_reducible refine gC 20 rfl ?_);refine gL 21 Try.func20 #[.slice A0 l0.length c0] ?_;(with_reducible refine(fah.calls k _ _ l0 zd _ ?s1 HC0.out A8.out).mono ?_);(case s1=>exact pC HR0.out);rintro e w' ⟨rfl,⟨nd,rfl⟩⟩;refine⟨_,rfl,?_⟩))
 go_loopg [8,22] k (fun kq v8 v22 w'=>∃ (yb:List Int) (ya:Int),v22=.int .i64 ya∧Aside0 (fay.l0 kq l1 yb zd ya=some (r1,r2,r3))∧Aside0 (kq≤k)∧Aside0 (Kd.R (Kd.int .i64) 3 w' w.heap.size (fun _=>True) v8 yb)∧Aside0 (Below w.heap.size w w'))
 case atStart=>exact⟨(([]:List Int)),(0),(pF),H',⟨Nat.le_refl _⟩,⟨pN⟩,⟨qB HB⟩⟩
 clear H'
 try clear c1
 try clear zl
 try clear zm
 try clear zn
 try clear zo
 obtain⟨yb,ya,rfl,HA,HK1,ze,HB⟩:=hrel
 cases gk with
 | zero=>exact absurd HA.out (by simp[fay.l0])
 | succ k1=>?_
 have H:=HA.out
 clear HA
 simp only[fay.l0] at H
 by_cases c9:ya<zd
 ·rw[ip c9] at H
  have yc:=dT c9
  clear c9
  by_cases c10:yb.length<17592186044416
  rotate_left
  ·rw[iN c10] at H
   cases H
  rw[ip c10] at H
  have LMc10:=aM c10
  clear c10
  obtain⟨zp,zg⟩:∃ y_:List Int,y_=(yb++[ya]):=⟨_,rfl⟩
  replace H:(fay.l0 k1 l1 zp zd (wrap64 (ya+1)))=some (r1,r2,r3):=pH zg H
  have Ny596:=aM zg
  clear zg
  have H':=aM H
  clear H
  go_wp2_with (first|((with_reducible refine gate_builtin (b:=.append) (xs:=#[.tmp 25,.tmp 27]) rfl ?_);at_builtin;refine Kd.R_append (Kd.int .i64) (w0:=w) w.heap.size rfl (.tmp 25) (.tmp 27) 22 3 (.int .i64 0) 8 rfl Try.underlying22 info3 rfl (by decide) (by omega) u8 yb ya [.int .i64 ya] (fun _=>True) (fun _=>False) rfl rfl ?aP (fun _ hk=>hk.elim) ?aF ?aO ?aB ?aS ?aL ?_;(case aP=>exact rfl);(case aB=>exact(qB HB));(case aF=>exact(fun _ _=>trivial));(case aO=>exact(pR ze.out));(case aS=>exact(below_size (qB HB)));(case aL=>have:=LMc10.out;omega);intro v597 w11 ho hb hg hat;rw[← Ny596.out] at ho;replace HB:=aM (hb);have HO598:=aM (ho);clear ze;clear ho hb hg hat))
  go_roundg k1
  case measure=>have:=HK1.out;omega
  case rel=>exact⟨(zp),(wrap64 (ya+1)),(pF),H',⟨pO1 HK1⟩,⟨pR HO598.out⟩,⟨qB HB⟩⟩
 rw[iN c9] at H
 have yc:=dF c9
 clear c9
 obtain⟨zf,zh⟩:∃ y_:List Int,y_=(([]:List Int)):=⟨_,rfl⟩
 replace H:(if zf.length+l1.length<17592186044416 then(some ((zf++l1),yb,0))else(none))=some (r1,r2,r3):=pH zh H
 have zj:=aM zh
 clear zh
 by_cases c12:zf.length+l1.length<17592186044416
 rotate_left
 ·rw[iN c12] at H
  cases H
 rw[ip c12] at H
 have LMc12:=aM c12
 clear c12
 obtain⟨y602,zi⟩:∃ y_:List Int,y_=(zf++l1):=⟨_,rfl⟩
 replace H:(some (y602,yb,0))=some (r1,r2,r3):=pH zi H
 have Ny602:=aM zi
 clear zi
 replace H:=oi3 H
 obtain⟨rfl,rfl,rfl⟩:=H
 go_wp2_with (first|((with_reducible refine gD 30 rfl ?_);refine Kd.R_lit (Kd.int .i64) _ 3 ?hg (N:=30) ?hd (xs:=([]:List Int)) (inner:=[]) (ok:=fun _=>True) (okp:=fun _=>True) ?hr ?hp (fun _ hk=>hk) trivial (Below.refl _ _) (Nat.le_refl _) (by simp) ?_;(case hd=>rfl);(case hg=>rfl);(case hr=>first|(go_simp;done)|(go_simp;rfl));(case hp=>exact(Reps.none _ _));intro v600 w13 ho14 hb hg_ hnew_;clear hg_ hnew_;(first|rw[← zj.out] at ho14|(simp only[Int.reduceToNat] at ho14;rw[← zj.out] at ho14));have zk:=aM (Kd.R_lower (Kd.R_new' ho14 (Kd.R_lt (pR ze.out))) (below_size (qB HB)));replace ze:=eR ze ho14 hb;replace HB:=bS (qB HB) hb;clear hb ho14)|((with_reducible refine gate_builtin (b:=.append) (xs:=#[.tmp 30,.tmp 31]) rfl ?_);at_builtin;refine Kd.R_append_rows (Kd.int .i64) (w0:=w) w.heap.size rfl (.tmp 30) (.tmp 31) 22 3 (.int .i64 0) 8 rfl Try.underlying22 info3 rfl (by decide) (by omega) v600 zf l1 _ _ _ (fun k_=>some k_≠(u8:Value).ownBlock) (fun _=>False) rfl rfl ?aO ?aR (fun _ _ h=>h) (fun _ h=>h.elim) ?aF ?aB ?aS ?aL ?_;(case aR=>exact sC HR1 HB);(case aB=>exact(qB HB));(case aF=>exact(fun k_ hk=>Kd.fresh' (Kd.R_lt (pR ze.out)) k_ hk));(case aO=>exact(by(with_reducible repeat(first|apply rA|apply rN|apply rD));exact Kd.R_mono zk.out (fun _ hk=>hk.2)));(case aS=>exact(below_size (qB HB)));(case aL=>have:=LMc12.out;omega);intro v603 w15 ho hb hg hat;rw[← Ny602.out] at ho;replace ze:=aM (Kd.R_after (ok:=(fun _=>True)) (pR ze.out) hg hat);replace HB:=aM (hb);have HO604:=aM (ho);clear zk;clear ho hb hg hat))
 go_ret3
 exact⟨_,_,pE,pR HO604.out,by(with_reducible repeat(first|apply rA|apply rN|apply rD));exact Kd.R_mono ze.out (fun _ hk=>hk.2),qB HB⟩
mutual
def fba.j0:Nat→List Int→Int→Int→Int→Int→Bool→Option (List Int×List Int×Int)
 | 0,_,_,_,_,_,_=>none
 | k+1,x0,x1,x2,x3,x4,x23=>if x23=true then(some (([]:List Int),([]:List Int),10))else(if x3<1 then(fba.j1 k x0 x1 x2 x3 x4 true)else(if 0≤x1 then(if x1<(x0.length:Int)then(if x3 > (rd x0 x1)then(fba.j1 k x0 x1 x2 x3 x4 true)else(if x2<0 then(fba.j1 k x0 x1 x2 x3 x4 true)else(if x2 ≥ (rd x0 x1)then(fba.j1 k x0 x1 x2 x3 x4 true)else(if x3 > 1 then(if x4=0 then(fba.j1 k x0 x1 x2 x3 x4 true)else(if x4 > 64 then(fba.j1 k x0 x1 x2 x3 x4 true)else(fba.j1 k x0 x1 x2 x3 x4 (decide (x4<(-64))))))else(fba.j1 k x0 x1 x2 x3 x4 false)))))else(none))else(none)))
def fba.j1:Nat→List Int→Int→Int→Int→Int→Bool→Option (List Int×List Int×Int)
 | 0,_,_,_,_,_,_=>none
 | k+1,x0,x1,x2,x3,x4,x61=>if x61=true then(some (([]:List Int),([]:List Int),11))else(fba.l0 k x0 x1 x2 x4 ([]:List Int) x3 0)
def fba.l0:Nat→List Int→Int→Int→Int→List Int→Int→Int→Option (List Int×List Int×Int)
 | 0,_,_,_,_,_,_,_=>none
 | k+1,x0,x1,x2,x4,x13,x62,x63=>if x63<x62 then(if x63 > 0 then(if(wrap64 (x2+(wrap64 (x63*x4))))<0 then(some (([]:List Int),([]:List Int),11))else(if 0≤x1 then(if x1<(x0.length:Int)then(if(wrap64 (x2+(wrap64 (x63*x4)))) ≥ (rd x0 x1)then(some (([]:List Int),([]:List Int),11))else(if x13.length<17592186044416 then(fba.l0 k x0 x1 x2 x4 (x13++[wrap64 (x2+(wrap64 (x63*x4)))]) x62 (wrap64 (x63+1)))else(none)))else(none))else(none)))else(if x2<0 then(some (([]:List Int),([]:List Int),11))else(if 0≤x1 then(if x1<(x0.length:Int)then(if x2 ≥ (rd x0 x1)then(some (([]:List Int),([]:List Int),11))else(if x13.length<17592186044416 then(fba.l0 k x0 x1 x2 x4 (x13++[x2]) x62 (wrap64 (x63+1)))else(none)))else(none))else(none))))else((fbb.f k x0 x1 x13).bind fun bt671=>(some (bt671.1,bt671.2.1,bt671.2.2)))
end
def fba.f (k:Nat) (l0:List Int)(a1 a2 a3 a4:Int):Option (List Int×List Int×Int):=if a1<0 then(fba.j0 k l0 a1 a2 a3 a4 true)else(fba.j0 k l0 a1 a2 a3 a4 (decide (a1 ≥ (l0.length:Int))))
theorem fba.calls (k:Nat)(A0:Option Addr)(c0:Nat)(l0:List Int)(a1 a2 a3 a4:Int)(r1 r2:List Int)(r3:Int)(w:World)(hr0:Kd.C (Kd.int .i64) w A0 l0.length l0)(hc0:l0.length≤c0)(h:fba.f k l0 a1 a2 a3 a4=some (r1,r2,r3)) :
  Calls Try.prog 85 #[.slice A0 l0.length c0,.int .i64 a1,.int .i64 a2,.int .i64 a3,.int .i64 a4] w fun e w'=>∃ v0_ v1_:Value,e=.returned (.tuple #[v0_,v1_,.int .i64 r3])∧Kd.R (Kd.int .i64) 3 w' w.heap.size (fun k_=>some k_≠(v1_:Value).ownBlock) v0_ r1∧Kd.R (Kd.int .i64) 3 w' w.heap.size (fun k_=>some k_≠(v0_:Value).ownBlock) v1_ r2∧Below w.heap.size w w':=by
 have HR0:=aM hr0
 have HC0:=aM hc0
 clear hr0 hc0
 have HB:=aM (Below.refl w.heap.size w)
 have H:(if a1<0 then(fba.j0 k l0 a1 a2 a3 a4 true)else(fba.j0 k l0 a1 a2 a3 a4 (decide (a1 ≥ (l0.length:Int)))))=some (r1,r2,r3):=h
 clear h
 have HC6:=aM H
 clear H
 go_enter Try.func85,Try.ntmps85
 go_upto_region 1 with(fail)
 go_cut [23] (fun v23 wc=>∃ (kq:Nat) (yj:Bool),v23=.bool yj∧Aside0 (fba.j0 kq l0 a1 a2 a3 a4 yj=some (r1,r2,r3))∧Aside0 (kq≤k)∧Aside0 (Below w.heap.size w wc))
 case first =>
  have H:=HC6.out
  clear HC6
  by_cases c7:a1<0
  ·rw[ip c7] at H
   have zc:=dT c7
   clear c7
   (first|rw[zc]|(simp only[i64_w,i32_w];rw[zc])|skip)
   have H':=aM H
   clear H
   go_wp2
   go_meet
   case rel=>exact⟨_,(true),(pF),H',⟨pO⟩,⟨qB HB⟩⟩
  rw[iN c7] at H
  have zc:=dF c7
  clear c7
  (first|rw[zc]|(simp only[i64_w,i32_w];rw[zc])|skip)
  have H':=aM H
  clear H
  go_wp2
  go_meet
  case rel=>exact⟨_,(decide (a1 ≥ (l0.length:Int))),(pF),H',⟨pO⟩,⟨qB HB⟩⟩
 clear HC6
 obtain⟨kq,yj,rfl,HA,HJ5,HB⟩:=hcut
 cases kq with
 | zero=>exact absurd HA.out (by simp[fba.j0])
 | succ kj5=>?_
 have H:=HA.out
 clear HA
 simp only[fba.j0] at H
 by_cases c8:yj=true
 ·subst c8
  rw[ip rfl] at H
  replace H:=oi3 H
  obtain⟨rfl,rfl,rfl⟩:=H
  go_wp2
  go_ret3
  exact⟨_,_,pE,pN,pN,qB HB⟩
 replace c8:=Bool.eq_false_iff.mpr c8
 subst c8
 rw[iN fT] at H
 have HC9:=aM H
 clear H
 go_upto_region 3 with(fail)
 go_cut [61] (fun v61 wc=>∃ (kq:Nat) (yk:Bool),v61=.bool yk∧Aside0 (fba.j1 kq l0 a1 a2 a3 a4 yk=some (r1,r2,r3))∧Aside0 (kq≤kj5)∧Aside0 (Below w.heap.size w wc))
 case first =>
  have H:=HC9.out
  clear HC9
  by_cases c10:a3<1
  ·rw[ip c10] at H
   have zb:=dT c10
   clear c10
   (first|rw[zb]|(simp only[i64_w,i32_w];rw[zb])|skip)
   have H':=aM H
   clear H
   go_wp2
   go_meet
   case rel=>exact⟨_,(true),(pF),H',⟨pO1 HJ5⟩,⟨qB HB⟩⟩
  rw[iN c10] at H
  have zb:=dF c10
  clear c10
  (first|rw[zb]|(simp only[i64_w,i32_w];rw[zb])|skip)
  by_cases c11:0≤a1
  rotate_left
  ·rw[iN c11] at H
   cases H
  rw[ip c11] at H
  have c11b0:=dT c11
  clear c11
  by_cases c12:a1<(l0.length:Int)
  rotate_left
  ·rw[iN c12] at H
   cases H
  rw[ip c12] at H
  have c12b0:=dT c12
  clear c12
  by_cases c13:a3 > (rd l0 a1)
  ·rw[ip c13] at H
   have yp:decide ((rd l0 a1)<a3)=true:=decide_eq_true c13
   clear c13
   have H':=aM H
   clear H
   obtain⟨yd,⟨⟩,ya,yl,ym⟩:=zI HR0.out a1
   replace ya:=zW HB ya
   go_wp2
   go_meet
   case rel=>exact⟨_,(true),(pF),H',⟨pO1 HJ5⟩,⟨qB HB⟩⟩
  rw[iN c13] at H
  have yp:decide ((rd l0 a1)<a3)=false:=decide_eq_false c13
  clear c13
  by_cases c14:a2<0
  ·rw[ip c14] at H
   have yq:=dT c14
   clear c14
   have H':=aM H
   clear H
   obtain⟨yd,⟨⟩,ya,yl,ym⟩:=zI HR0.out a1
   replace ya:=zW HB ya
   go_wp2
   go_meet
   case rel=>exact⟨_,(true),(pF),H',⟨pO1 HJ5⟩,⟨qB HB⟩⟩
  rw[iN c14] at H
  have yq:=dF c14
  clear c14
  by_cases c15:a2 ≥ (rd l0 a1)
  ·rw[ip c15] at H
   have yr:decide ((rd l0 a1)≤a2)=true:=decide_eq_true c15
   clear c15
   have H':=aM H
   clear H
   obtain⟨yd,⟨⟩,ya,yl,ym⟩:=zI HR0.out a1
   replace ya:=zW HB ya
   obtain⟨yf,yi,yb,yn,yo⟩:=zI HR0.out a1
   obtain rfl:yd=yf:=(by injection yi)
   replace yb:=zW HB yb
   go_wp2
   go_meet
   case rel=>exact⟨_,(true),(pF),H',⟨pO1 HJ5⟩,⟨qB HB⟩⟩
  rw[iN c15] at H
  have yr:decide ((rd l0 a1)≤a2)=false:=decide_eq_false c15
  clear c15
  by_cases c16:a3 > 1
  rotate_left
  ·rw[iN c16] at H
   have ys:decide (1<a3)=false:=decide_eq_false c16
   clear c16
   have H':=aM H
   clear H
   obtain⟨yd,⟨⟩,ya,yl,ym⟩:=zI HR0.out a1
   replace ya:=zW HB ya
   obtain⟨yf,yi,yb,yn,yo⟩:=zI HR0.out a1
   obtain rfl:yd=yf:=(by injection yi)
   replace yb:=zW HB yb
   go_wp2
   go_meet
   case rel=>exact⟨_,(false),(pF),H',⟨pO1 HJ5⟩,⟨qB HB⟩⟩
  rw[ip c16] at H
  have ys:decide (1<a3)=true:=decide_eq_true c16
  clear c16
  by_cases c17:a4=0
  ·rw[ip c17] at H
   have yt:=bT c17
   have yu:=nF c17
   clear c17
   have H':=aM H
   clear H
   obtain⟨yd,⟨⟩,ya,yl,ym⟩:=zI HR0.out a1
   replace ya:=zW HB ya
   obtain⟨yf,yi,yb,yn,yo⟩:=zI HR0.out a1
   obtain rfl:yd=yf:=(by injection yi)
   replace yb:=zW HB yb
   go_wp2
   go_meet
   case rel=>exact⟨_,(true),(pF),H',⟨pO1 HJ5⟩,⟨qB HB⟩⟩
  rw[iN c17] at H
  have yt:=bF c17
  have yu:=nT c17
  by_cases c18:a4 > 64
  ·rw[ip c18] at H
   have yv:decide (64<a4)=true:=decide_eq_true c18
   clear c18
   have H':=aM H
   clear H
   obtain⟨yd,⟨⟩,ya,yl,ym⟩:=zI HR0.out a1
   replace ya:=zW HB ya
   obtain⟨yf,yi,yb,yn,yo⟩:=zI HR0.out a1
   obtain rfl:yd=yf:=(by injection yi)
   replace yb:=zW HB yb
   go_wp2
   go_meet
   case rel=>exact⟨_,(true),(pF),H',⟨pO1 HJ5⟩,⟨qB HB⟩⟩
  rw[iN c18] at H
  have yv:decide (64<a4)=false:=decide_eq_false c18
  clear c18
  have H':=aM H
  clear H
  obtain⟨yd,⟨⟩,ya,yl,ym⟩:=zI HR0.out a1
  replace ya:=zW HB ya
  obtain⟨yf,yi,yb,yn,yo⟩:=zI HR0.out a1
  obtain rfl:yd=yf:=(by injection yi)
  replace yb:=zW HB yb
  go_wp2
  go_meet
  case rel=>exact⟨_,(decide (a4<(-64))),(pF),H',⟨pO1 HJ5⟩,⟨qB HB⟩⟩
 clear HC9
 try clear c8
 obtain⟨kq,yk,rfl,HA,HJ8,HB⟩:=hcut
 cases kq with
 | zero=>exact absurd HA.out (by simp[fba.j1])
 | succ kj8=>?_
 have H:=HA.out
 clear HA
 simp only[fba.j1] at H
 by_cases c19:yk=true
 ·subst c19
  rw[ip rfl] at H
  replace H:=oi3 H
  obtain⟨rfl,rfl,rfl⟩:=H
  go_wp2
  go_ret3
  exact⟨_,_,pE,pN,pN,qB HB⟩
 replace c19:=Bool.eq_false_iff.mpr c19
 subst c19
 rw[iN fT] at H
 have H':=aM H
 clear H
 go_wp2
 go_loopg [13,63] kj8 (fun kq v13 v63 w'=>∃ (ye:List Int) (yc:Int),v63=.int .i64 yc∧Aside0 (fba.l0 kq l0 a1 a2 a4 ye a3 yc=some (r1,r2,r3))∧Aside0 (kq≤kj8)∧Aside0 (Kd.R (Kd.int .i64) 3 w' w.heap.size (fun _=>True) v13 ye)∧Aside0 (Below w.heap.size w w'))
 case atStart=>exact⟨(([]:List Int)),(0),(pF),H',⟨Nat.le_refl _⟩,⟨pN⟩,⟨qB HB⟩⟩
 clear H'
 try clear c19
 obtain⟨ye,yc,rfl,HA,HK3,za,HB⟩:=hrel
 cases gk with
 | zero=>exact absurd HA.out (by simp[fba.l0])
 | succ k3=>?_
 have H:=HA.out
 clear HA
 simp only[fba.l0] at H
 by_cases c20:yc<a3
 rotate_left
 ·rw[iN c20] at H
  have yw:=dF c20
  clear c20
  replace H:=oB H
  obtain⟨⟨t671,t672,t673⟩,zf,H⟩:=H
  try dsimp only at H
  have A34:=aM zf
  clear zf
  replace H:=oi3 H
  obtain⟨rfl,rfl,rfl⟩:=H
  obtain⟨y4,y5,y6⟩:=Kd.R_slice za.out
  subst y6
  go_wp2_with (first|((with_reducible refine gC 66 rfl ?_);refine gL 92 Try.func66 #[.slice A0 l0.length c0,.int .i64 a1,.slice y4 ye.length y5] ?_;(with_reducible refine(fbb.calls k3 _ _ l0 a1 _ _ ye t671 t672 t673 _ ?s1 HC0.out ?s3 ?s4 A34.out).mono ?_);(case s1=>exact sC HR0 HB);(case s3=>exact sR za);(case s4=>exact sL za);rintro e w36 ⟨v674,v676,rfl,ho0,ho1,hb⟩;refine⟨_,rfl,?_⟩;have HO675:=aM (Kd.R_lower (Kd.R_new' ho0 (Kd.R_lt (pR za.out))) (below_size (qB HB)));have HO677:=aM (Kd.R_lower (Kd.R_new' ho1 (Kd.R_lt (pR za.out))) (below_size (qB HB)));replace za:=eR2 za ho0 ho1 hb;replace HB:=bS (qB HB) hb))
  go_ret3
  exact⟨_,_,pE,by(with_reducible repeat(first|apply rA|apply rN|apply rD));exact Kd.R_mono HO675.out (fun _ hk=>hk.1),by(with_reducible repeat(first|apply rA|apply rN|apply rD));exact Kd.R_mono HO677.out (fun _ hk=>hk.1),qB HB⟩
 rw[ip c20] at H
 have yw:=dT c20
 clear c20
 by_cases c21:yc > 0
 ·rw[ip c21] at H
  have yx:decide (0<yc)=true:=decide_eq_true c21
  clear c21
  by_cases c22:(wrap64 (a2+(wrap64 (yc*a4))))<0
  ·rw[ip c22] at H
   have yy:=dT c22
   clear c22
   replace H:=oi3 H
   obtain⟨rfl,rfl,rfl⟩:=H
   go_wp2
   go_ret3
   exact⟨_,_,pE,pN,pN,qB HB⟩
  rw[iN c22] at H
  have yy:=dF c22
  clear c22
  by_cases c23:0≤a1
  rotate_left
  ·rw[iN c23] at H
   cases H
  rw[ip c23] at H
  have c23b0:=dT c23
  clear c23
  by_cases c24:a1<(l0.length:Int)
  rotate_left
  ·rw[iN c24] at H
   cases H
  rw[ip c24] at H
  have c24b0:=dT c24
  clear c24
  by_cases c25:(wrap64 (a2+(wrap64 (yc*a4)))) ≥ (rd l0 a1)
  ·rw[ip c25] at H
   have yz:decide ((rd l0 a1)≤(wrap64 (a2+(wrap64 (yc*a4)))))=true:=decide_eq_true c25
   clear c25
   replace H:=oi3 H
   obtain⟨rfl,rfl,rfl⟩:=H
   obtain⟨y0,⟨⟩,yg,y7,y8⟩:=zI HR0.out a1
   replace yg:=zW HB yg
   go_wp2
   go_ret3
   exact⟨_,_,pE,pN,pN,qB HB⟩
  rw[iN c25] at H
  have yz:decide ((rd l0 a1)≤(wrap64 (a2+(wrap64 (yc*a4)))))=false:=decide_eq_false c25
  clear c25
  by_cases c26:ye.length<17592186044416
  rotate_left
  ·rw[iN c26] at H
   cases H
  rw[ip c26] at H
  have LMc26:=aM c26
  clear c26
  obtain⟨zg,zd⟩:∃ y_:List Int,y_=(ye++[wrap64 (a2+(wrap64 (yc*a4)))]):=⟨_,rfl⟩
  replace H:(fba.l0 k3 l0 a1 a2 a4 zg a3 (wrap64 (yc+1)))=some (r1,r2,r3):=pH zd H
  have Ny679:=aM zd
  clear zd
  have H':=aM H
  clear H
  obtain⟨y0,⟨⟩,yg,y7,y8⟩:=zI HR0.out a1
  replace yg:=zW HB yg
  go_wp2_with (first|((with_reducible refine gate_builtin (b:=.append) (xs:=#[.tmp 84,.tmp 86]) rfl ?_);(try (refine gate_guard (by rfl) ?_;dsimp only));at_builtin;refine Kd.R_append (Kd.int .i64) (w0:=w) w.heap.size rfl (.tmp 84) (.tmp 86) 22 3 (.int .i64 0) 8 rfl Try.underlying22 info3 rfl (by decide) (by omega) u13 ye (wrap64 (a2+(wrap64 (yc*a4)))) [.int .i64 (wrap64 (a2+(wrap64 (yc*a4))))] (fun _=>True) (fun _=>False) rfl rfl ?aP (fun _ hk=>hk.elim) ?aF ?aO ?aB ?aS ?aL ?_;(case aP=>exact rfl);(case aB=>exact(qB HB));(case aF=>exact(fun _ _=>trivial));(case aO=>exact(pR za.out));(case aS=>exact(below_size (qB HB)));(case aL=>have:=LMc26.out;omega);intro v680 w27 ho hb hg hat;rw[← Ny679.out] at ho;replace HB:=aM (hb);have HO681:=aM (ho);clear za;clear ho hb hg hat))
  go_roundg k3
  case measure=>have:=HJ5.out;have:=HJ8.out;have:=HK3.out;omega
  case rel=>exact⟨(zg),(wrap64 (yc+1)),(pF),H',⟨by have:=HJ5.out;have:=HJ8.out;have:=HK3.out;omega⟩,⟨pR HO681.out⟩,⟨qB HB⟩⟩
 rw[iN c21] at H
 have yx:decide (0<yc)=false:=decide_eq_false c21
 clear c21
 by_cases c28:a2<0
 ·rw[ip c28] at H
  have y1:=dT c28
  clear c28
  replace H:=oi3 H
  obtain⟨rfl,rfl,rfl⟩:=H
  go_wp2
  go_ret3
  exact⟨_,_,pE,pN,pN,qB HB⟩
 rw[iN c28] at H
 have y1:=dF c28
 clear c28
 by_cases c29:0≤a1
 rotate_left
 ·rw[iN c29] at H
  cases H
 rw[ip c29] at H
 have c29b0:=dT c29
 clear c29
 by_cases c30:a1<(l0.length:Int)
 rotate_left
 ·rw[iN c30] at H
  cases H
 rw[ip c30] at H
 have c30b0:=dT c30
 clear c30
 by_cases c31:a2 ≥ (rd l0 a1)
 ·rw[ip c31] at H
  have y2:decide ((rd l0 a1)≤a2)=true:=decide_eq_true c31
  clear c31
  replace H:=oi3 H
  obtain⟨rfl,rfl,rfl⟩:=H
  obtain⟨y3,⟨⟩,yh,y9,yaa⟩:=zI HR0.out a1
  replace yh:=zW HB yh
  go_wp2
  go_ret3
  exact⟨_,_,pE,pN,pN,qB HB⟩
 rw[iN c31] at H
 have y2:decide ((rd l0 a1)≤a2)=false:=decide_eq_false c31
 clear c31
 by_cases c32:ye.length<17592186044416
 rotate_left
 ·rw[iN c32] at H
  cases H
 rw[ip c32] at H
 have LMc32:=aM c32
 clear c32
 obtain⟨zh,ze⟩:∃ y_:List Int,y_=(ye++[a2]):=⟨_,rfl⟩
 replace H:(fba.l0 k3 l0 a1 a2 a4 zh a3 (wrap64 (yc+1)))=some (r1,r2,r3):=pH ze H
 have Ny683:=aM ze
 clear ze
 have H':=aM H
 clear H
 obtain⟨y3,⟨⟩,yh,y9,yaa⟩:=zI HR0.out a1
 replace yh:=zW HB yh
 go_wp2_with (first|((with_reducible refine gate_builtin (b:=.append) (xs:=#[.tmp 84,.tmp 86]) rfl ?_);(try (refine gate_guard (by rfl) ?_;dsimp only));at_builtin;refine Kd.R_append (Kd.int .i64) (w0:=w) w.heap.size rfl (.tmp 84) (.tmp 86) 22 3 (.int .i64 0) 8 rfl Try.underlying22 info3 rfl (by decide) (by omega) u13 ye a2 [.int .i64 a2] (fun _=>True) (fun _=>False) rfl rfl ?aP (fun _ hk=>hk.elim) ?aF ?aO ?aB ?aS ?aL ?_;(case aP=>exact rfl);(case aB=>exact(qB HB));(case aF=>exact(fun _ _=>trivial));(case aO=>exact(pR za.out));(case aS=>exact(below_size (qB HB)));(case aL=>have:=LMc32.out;omega);intro v684 w33 ho hb hg hat;rw[← Ny683.out] at ho;replace HB:=aM (hb);have HO685:=aM (ho);clear za;clear ho hb hg hat))
 go_roundg k3
 case measure=>have:=HJ5.out;have:=HJ8.out;have:=HK3.out;omega
 case rel=>exact⟨(zh),(wrap64 (yc+1)),(pF),H',⟨by have:=HJ5.out;have:=HJ8.out;have:=HK3.out;omega⟩,⟨pR HO685.out⟩,⟨qB HB⟩⟩
def faz.f (k:Nat) (a0 yb yc yd ye yh yi yj yk:Int)(yl:Bool)(ya l2:List Int):Option (List Int×List Int×Int):=if a0=33 then((fay.f k l2 ya).bind fun bt768=>(some (bt768.1,bt768.2.1,bt768.2.2)))else(if a0=34 then((fax.f k l2 ya).bind fun bt775=>(some (bt775.1,bt775.2.1,bt775.2.2)))else(if a0=35 then((fba.f k l2 yb yc yd ye).bind fun bt782=>(some (bt782.1,bt782.2.1,bt782.2.2)))else(if a0=36 then((fav.f k l2 ya).bind fun bt789=>(some (bt789.1,bt789.2.1,bt789.2.2)))else(if a0=37 then((faw.f k l2 yb).bind fun bt796=>(some (bt796.1,bt796.2.1,bt796.2.2)))else(some (([]:List Int),([]:List Int),14))))))
theorem faz.calls (k:Nat) (a0 yb yc yd ye yh yi yj yk:Int)(yl:Bool)(yf:Option Addr)(yg:Nat)(ya:List Int)(A2:Option Addr)(c2:Nat)(l2 r1 r2:List Int)(r3:Int)(w:World)(ym:Kd.C (Kd.int .i64) w yf ya.length ya)(yn:ya.length≤yg)(hr2:Kd.C (Kd.int .i64) w A2 l2.length l2)(hc2:l2.length≤c2)(h:faz.f k a0 yb yc yd ye yh yi yj yk yl ya l2=some (r1,r2,r3)) :
  Calls Try.prog 65 #[.int .i64 a0,.agg #[.int .i64 yb,.int .i64 yc,.int .i64 yd,.int .i64 ye,.int .i64 yh,.int .i64 yi,.int .i64 yj,.int .i64 yk,.bool yl,.slice yf ya.length yg],.slice A2 l2.length c2] w fun e w'=>∃ v0_ v1_:Value,e=.returned (.tuple #[v0_,v1_,.int .i64 r3])∧Kd.R (Kd.int .i64) 3 w' w.heap.size (fun k_=>some k_≠(v1_:Value).ownBlock) v0_ r1∧Kd.R (Kd.int .i64) 3 w' w.heap.size (fun k_=>some k_≠(v0_:Value).ownBlock) v1_ r2∧Below w.heap.size w w':=by
 have hu24:=Try.underlying24
 have ze:=aM ym
 have zf:=aM yn
 clear ym yn
 have HR2:=aM hr2
 have HC2:=aM hc2
 clear hr2 hc2
 have HB:=aM (Below.refl w.heap.size w)
 have H:(if a0=33 then((fay.f k l2 ya).bind fun bt768=>(some (bt768.1,bt768.2.1,bt768.2.2)))else(if a0=34 then((fax.f k l2 ya).bind fun bt775=>(some (bt775.1,bt775.2.1,bt775.2.2)))else(if a0=35 then((fba.f k l2 yb yc yd ye).bind fun bt782=>(some (bt782.1,bt782.2.1,bt782.2.2)))else(if a0=36 then((fav.f k l2 ya).bind fun bt789=>(some (bt789.1,bt789.2.1,bt789.2.2)))else(if a0=37 then((faw.f k l2 yb).bind fun bt796=>(some (bt796.1,bt796.2.1,bt796.2.2)))else(some (([]:List Int),([]:List Int),14)))))))=some (r1,r2,r3):=h
 clear h
 by_cases c4:a0=33
 ·rw[ip c4] at H
  have yu:=bT c4
  have yv:=nF c4
  clear c4
  replace H:=oB H
  obtain⟨⟨t768,t769,t770⟩,A50,H⟩:=H
  try dsimp only at H
  have A5:=aM A50
  clear A50
  replace H:=oi3 H
  obtain⟨rfl,rfl,rfl⟩:=H
  go_enter Try.func65,Try.ntmps65
  go_wp2_with (first|((with_reducible refine gD 4 rfl ?_);refine bX 4 24 (aT yb yc yd ye yh yi yj yk yl yf ya.length yg) ?_;intro zd hg w6 hbox hb;have zb:=aM (hbox);have zc:=gE (w:=w) hg (qB HB);have za:=zc;replace HB:=bS (qB HB) hb;clear hb hbox hg;have hcz7:=blk10 zb.out)|((with_reducible refine gC 83 rfl ?_);refine gL 14 Try.func83 #[.slice A2 l2.length c2,.slice yf ya.length yg] ?_;(with_reducible refine(fay.calls k _ _ l2 _ _ ya t768 t769 t770 _ ?s1 HC2.out ?s3 zf.out A5.out).mono ?_);(case s1=>exact sC HR2 HB);(case s3=>exact sC ze HB);rintro e w8 ⟨v771,v773,rfl,ho0,ho1,hb⟩;refine⟨_,rfl,?_⟩;have HO772:=aM (Kd.R_lower ho0 (below_size (qB1 HB za)));have HO774:=aM (Kd.R_lower ho1 (below_size (qB1 HB za)));replace zb:=bK zb hb;replace HB:=bS (qB1 HB za) hb))
  go_ret3
  exact⟨_,_,pE,pR HO772.out,pR HO774.out,qB1 HB za⟩
 rw[iN c4] at H
 have yu:=bF c4
 have yv:=nT c4
 by_cases c9:a0=34
 ·rw[ip c9] at H
  have yw:=bT c9
  have yx:=nF c9
  clear c9
  replace H:=oB H
  obtain⟨⟨t775,t776,t777⟩,zg,H⟩:=H
  try dsimp only at H
  have A10:=aM zg
  clear zg
  replace H:=oi3 H
  obtain⟨rfl,rfl,rfl⟩:=H
  go_enter Try.func65,Try.ntmps65
  go_wp2_with (first|((with_reducible refine gD 4 rfl ?_);refine bX 4 24 (aT yb yc yd ye yh yi yj yk yl yf ya.length yg) ?_;intro zd hg w11 hbox hb;have zb:=aM (hbox);have zc:=gE (w:=w) hg (qB HB);have za:=zc;replace HB:=bS (qB HB) hb;clear hb hbox hg;have hcz12:=blk10 zb.out)|((with_reducible refine gC 84 rfl ?_);refine gL 23 Try.func84 #[.slice A2 l2.length c2,.slice yf ya.length yg] ?_;(with_reducible refine(fax.calls k _ _ l2 _ _ ya t775 t776 t777 _ ?s1 HC2.out ?s3 zf.out A10.out).mono ?_);(case s1=>exact sC HR2 HB);(case s3=>exact sC ze HB);rintro e w13 ⟨v778,v780,rfl,ho0,ho1,hb⟩;refine⟨_,rfl,?_⟩;have HO779:=aM (Kd.R_lower ho0 (below_size (qB1 HB za)));have HO781:=aM (Kd.R_lower ho1 (below_size (qB1 HB za)));replace zb:=bK zb hb;replace HB:=bS (qB1 HB za) hb))
  go_ret3
  exact⟨_,_,pE,pR HO779.out,pR HO781.out,qB1 HB za⟩
 rw[iN c9] at H
 have yw:=bF c9
 have yx:=nT c9
 by_cases c14:a0=35
 ·rw[ip c14] at H
  have yo:=bT c14
  have yp:=nF c14
  clear c14
  replace H:=oB H
  obtain⟨⟨t782,t783,t784⟩,zh,H⟩:=H
  try dsimp only at H
  have A15:=aM zh
  clear zh
  replace H:=oi3 H
  obtain⟨rfl,rfl,rfl⟩:=H
  go_enter Try.func65,Try.ntmps65
  go_wp2_with (first|((with_reducible refine gD 4 rfl ?_);refine bX 4 24 (aT yb yc yd ye yh yi yj yk yl yf ya.length yg) ?_;intro zd hg w16 hbox hb;have zb:=aM (hbox);have zc:=gE (w:=w) hg (qB HB);have za:=zc;replace HB:=bS (qB HB) hb;clear hb hbox hg;have hcz17:=blk10 zb.out)|((with_reducible refine gC 85 rfl ?_);refine gL 38 Try.func85 #[.slice A2 l2.length c2,.int .i64 yb,.int .i64 yc,.int .i64 yd,.int .i64 ye] ?_;(with_reducible refine(fba.calls k _ _ l2 yb yc yd ye t782 t783 t784 _ ?s1 HC2.out A15.out).mono ?_);(case s1=>exact sC HR2 HB);rintro e w18 ⟨v785,v787,rfl,ho0,ho1,hb⟩;refine⟨_,rfl,?_⟩;have HO786:=aM (Kd.R_lower ho0 (below_size (qB1 HB za)));have HO788:=aM (Kd.R_lower ho1 (below_size (qB1 HB za)));replace zb:=bK zb hb;replace HB:=bS (qB1 HB za) hb))
  go_ret3
  exact⟨_,_,pE,pR HO786.out,pR HO788.out,qB1 HB za⟩
 rw[iN c14] at H
 have yo:=bF c14
 have yp:=nT c14
 by_cases c19:a0=36
 ·rw[ip c19] at H
  have yq:=bT c19
  have yr:=nF c19
  clear c19
  replace H:=oB H
  obtain⟨⟨t789,t790,t791⟩,zi,H⟩:=H
  try dsimp only at H
  have A20:=aM zi
  clear zi
  replace H:=oi3 H
  obtain⟨rfl,rfl,rfl⟩:=H
  go_enter Try.func65,Try.ntmps65
  go_wp2_with (first|((with_reducible refine gD 4 rfl ?_);refine bX 4 24 (aT yb yc yd ye yh yi yj yk yl yf ya.length yg) ?_;intro zd hg w21 hbox hb;have zb:=aM (hbox);have zc:=gE (w:=w) hg (qB HB);have za:=zc;replace HB:=bS (qB HB) hb;clear hb hbox hg;have hcz22:=blk10 zb.out)|((with_reducible refine gC 86 rfl ?_);refine gL 47 Try.func86 #[.slice A2 l2.length c2,.slice yf ya.length yg] ?_;(with_reducible refine(fav.calls k _ _ l2 _ _ ya t789 t790 t791 _ ?s1 HC2.out ?s3 zf.out A20.out).mono ?_);(case s1=>exact sC HR2 HB);(case s3=>exact sC ze HB);rintro e w23 ⟨v792,v794,rfl,ho0,ho1,hb⟩;refine⟨_,rfl,?_⟩;have HO793:=aM (Kd.R_lower ho0 (below_size (qB1 HB za)));have HO795:=aM (Kd.R_lower ho1 (below_size (qB1 HB za)));replace zb:=bK zb hb;replace HB:=bS (qB1 HB za) hb))
  go_ret3
  exact⟨_,_,pE,pR HO793.out,pR HO795.out,qB1 HB za⟩
 rw[iN c19] at H
 have yq:=bF c19
 have yr:=nT c19
 by_cases c24:a0=37
 rotate_left
 ·rw[iN c24] at H
  have ys:=bF c24
  have yt:=nT c24
  replace H:=oi3 H
  obtain⟨rfl,rfl,rfl⟩:=H
  go_enter Try.func65,Try.ntmps65
  go_wp2_with (first|((with_reducible refine gD 4 rfl ?_);refine bX 4 24 (aT yb yc yd ye yh yi yj yk yl yf ya.length yg) ?_;intro zd hg w29 hbox hb;have zb:=aM (hbox);have zc:=gE (w:=w) hg (qB HB);have za:=zc;replace HB:=bS (qB HB) hb;clear hb hbox hg))
  go_ret3
  exact⟨_,_,pE,pN,pN,qB1 HB za⟩
 rw[ip c24] at H
 have ys:=bT c24
 have yt:=nF c24
 clear c24
 replace H:=oB H
 obtain⟨⟨t796,t797,t798⟩,zj,H⟩:=H
 try dsimp only at H
 have A25:=aM zj
 clear zj
 replace H:=oi3 H
 obtain⟨rfl,rfl,rfl⟩:=H
 go_enter Try.func65,Try.ntmps65
 go_wp2_with (first|((with_reducible refine gD 4 rfl ?_);refine bX 4 24 (aT yb yc yd ye yh yi yj yk yl yf ya.length yg) ?_;intro zd hg w26 hbox hb;have zb:=aM (hbox);have zc:=gE (w:=w) hg (qB HB);have za:=zc;replace HB:=bS (qB HB) hb;clear hb hbox hg;have hcz27:=blk10 zb.out)|((with_reducible refine gC 87 rfl ?_);refine gL 56 Try.func87 #[.slice A2 l2.length c2,.int .i64 yb] ?_;(with_reducible refine(faw.calls k _ _ l2 yb t796 t797 t798 _ ?s1 HC2.out A25.out).mono ?_);(case s1=>exact sC HR2 HB);rintro e w28 ⟨v799,v801,rfl,ho0,ho1,hb⟩;refine⟨_,rfl,?_⟩;have HO800:=aM (Kd.R_lower ho0 (below_size (qB1 HB za)));have HO802:=aM (Kd.R_lower ho1 (below_size (qB1 HB za)));replace zb:=bK zb hb;replace HB:=bS (qB1 HB za) hb))
 go_ret3
 exact⟨_,_,pE,pR HO800.out,pR HO802.out,qB1 HB za⟩
mutual
def fbj.j0:Nat→List Int→Bool→Int→Int→Int→Int→Int→Int→Int→Int→Bool→List Int→Option (List Int×List Int×Int)
 | 0,_,_,_,_,_,_,_,_,_,_,_,_=>none
 | k+1,x2,x28,zd,zi,zj,zk,zl,zm,zn,zo,zp,zc=>if x28=true then(some (([]:List Int),([]:List Int),10))else(fbj.l0 k x2 (zc.length:Int) 0 zd zi zj zk zl zm zn zo zp zc)
def fbj.l0:Nat→List Int→Int→Int→Int→Int→Int→Int→Int→Int→Int→Int→Bool→List Int→Option (List Int×List Int×Int)
 | 0,_,_,_,_,_,_,_,_,_,_,_,_,_=>none
 | k+1,x2,x31,x32,zd,zi,zj,zk,zl,zm,zn,zo,zp,zc=>if x32<x31 then(if 0≤x32 then(if x32<(zc.length:Int)then(if(rd zc x32)<0 then(some (([]:List Int),([]:List Int),11))else(if 0≤zd then(if zd<(x2.length:Int)then(if(rd zc x32) ≥ (rd x2 zd)then(some (([]:List Int),([]:List Int),11))else(fbj.l0 k x2 x31 (wrap64 (x32+1)) zd zi zj zk zl zm zn zo zp zc))else(none))else(none)))else(none))else(none))else((fbb.f k x2 zd zc).bind fun bt814=>(some (bt814.1,bt814.2.1,bt814.2.2)))
end
def fbj.f (k:Nat) (a0 ya yd ye yf yg yh yi yj:Int)(yk:Bool)(yb l2:List Int):Option (List Int×List Int×Int):=if a0=38 then(if ya<0 then(fbj.j0 k l2 true ya yd ye yf yg yh yi yj yk yb)else(fbj.j0 k l2 (decide (ya ≥ (l2.length:Int))) ya yd ye yf yg yh yi yj yk yb))else((faz.f k a0 ya yd ye yf yg yh yi yj yk yb l2).bind fun bt804=>(some (bt804.1,bt804.2.1,bt804.2.2)))
theorem fbj.calls (k:Nat) (a0 ya yd ye yf yg yh yi yj:Int)(yk:Bool)(yo:Option Addr)(yp:Nat)(yb:List Int)(A2:Option Addr)(c2:Nat)(l2 r1 r2:List Int)(r3:Int)(w:World)(yt:Kd.C (Kd.int .i64) w yo yb.length yb)(yu:yb.length≤yp)(hr2:Kd.C (Kd.int .i64) w A2 l2.length l2)(hc2:l2.length≤c2)(h:fbj.f k a0 ya yd ye yf yg yh yi yj yk yb l2=some (r1,r2,r3)) :
  Calls Try.prog 38 #[.int .i64 a0,.agg #[.int .i64 ya,.int .i64 yd,.int .i64 ye,.int .i64 yf,.int .i64 yg,.int .i64 yh,.int .i64 yi,.int .i64 yj,.bool yk,.slice yo yb.length yp],.slice A2 l2.length c2] w fun e w'=>∃ v0_ v1_:Value,e=.returned (.tuple #[v0_,v1_,.int .i64 r3])∧Kd.R (Kd.int .i64) 3 w' w.heap.size (fun k_=>some k_≠(v1_:Value).ownBlock) v0_ r1∧Kd.R (Kd.int .i64) 3 w' w.heap.size (fun k_=>some k_≠(v0_:Value).ownBlock) v1_ r2∧Below w.heap.size w w':=by
 have hu24:=Try.underlying24
 have ze:=aM yt
 have zh:=aM yu
 clear yt yu
 have HR2:=aM hr2
 have HC2:=aM hc2
 clear hr2 hc2
 have HB:=aM (Below.refl w.heap.size w)
 have H:(if a0=38 then(if ya<0 then(fbj.j0 k l2 true ya yd ye yf yg yh yi yj yk yb)else(fbj.j0 k l2 (decide (ya ≥ (l2.length:Int))) ya yd ye yf yg yh yi yj yk yb))else((faz.f k a0 ya yd ye yf yg yh yi yj yk yb l2).bind fun bt804=>(some (bt804.1,bt804.2.1,bt804.2.2))))=some (r1,r2,r3):=h
 clear h
 by_cases c4:a0=38
 rotate_left
 ·rw[iN c4] at H
  have zal:=bF c4
  have zam:=nT c4
  replace H:=oB H
  obtain⟨⟨zaf,zag,zah⟩,zan,H⟩:=H
  try dsimp only at H
  have A25:=aM zan
  clear zan
  replace H:=oi3 H
  obtain⟨rfl,rfl,rfl⟩:=H
  go_enter Try.func38,Try.ntmps38
  go_wp2_with (first|((with_reducible refine gD 4 rfl ?_);(try (refine gate_guard (by rfl) ?_;dsimp only));refine bX 4 24 (aT ya yd ye yf yg yh yi yj yk yo yb.length yp) ?_;intro zg hg w26 hbox hb;have za:=aM (hbox);have zf:=gE (w:=w) hg (qB HB);have zb:=zf;replace HB:=bS (qB HB) hb;clear hb hbox hg;obtain⟨zq,zr,zs,zt,zu,zv,zw,zx,zy,zz,z0,z1,z2,z3,z4,z5,z6,z7,z8,z9⟩:=blk10 za.out)|(go_at_call 65;(with_reducible refine(faz.calls k a0 ya yd ye yf yg yh yi yj yk _ _ yb _ _ l2 zaf zag zah _ ?s1 zh.out ?s3 HC2.out A25.out).mono ?_);(case s1=>exact sC ze HB);(case s3=>exact sC HR2 HB);rintro e w28 ⟨zao,zap,rfl,ho0,ho1,hb⟩;have zaa:=aM (Kd.R_lower ho0 (below_size (qB1 HB zb)));have zab:=aM (Kd.R_lower ho1 (below_size (qB1 HB zb)));replace za:=bK za hb;replace HB:=bS (qB1 HB zb) hb))
  repeat(go_quiet (first|((with_reducible refine gD 4 rfl ?_);(try (refine gate_guard (by rfl) ?_;dsimp only));refine bX 4 24 (aT ya yd ye yf yg yh yi yj yk yo yb.length yp) ?_;intro zg hg w26 hbox hb;have za:=aM (hbox);have zf:=gE (w:=w) hg (qB HB);have zb:=zf;replace HB:=bS (qB HB) hb;clear hb hbox hg;obtain⟨zq,zr,zs,zt,zu,zv,zw,zx,zy,zz,z0,z1,z2,z3,z4,z5,z6,z7,z8,z9⟩:=blk10 za.out)|(go_at_call 65;(with_reducible refine(faz.calls k a0 ya yd ye yf yg yh yi yj yk _ _ yb _ _ l2 zaf zag zah _ ?s1 zh.out ?s3 HC2.out A25.out).mono ?_);(case s1=>exact sC ze HB);(case s3=>exact sC HR2 HB);rintro e w28 ⟨zao,zap,rfl,ho0,ho1,hb⟩;have zaa:=aM (Kd.R_lower ho0 (below_size (qB1 HB zb)));have zab:=aM (Kd.R_lower ho1 (below_size (qB1 HB zb)));replace za:=bK za hb;replace HB:=bS (qB1 HB zb) hb));try go_wp2_with (first|((with_reducible refine gD 4 rfl ?_);(try (refine gate_guard (by rfl) ?_;dsimp only));refine bX 4 24 (aT ya yd ye yf yg yh yi yj yk yo yb.length yp) ?_;intro zg hg w26 hbox hb;have za:=aM (hbox);have zf:=gE (w:=w) hg (qB HB);have zb:=zf;replace HB:=bS (qB HB) hb;clear hb hbox hg;obtain⟨zq,zr,zs,zt,zu,zv,zw,zx,zy,zz,z0,z1,z2,z3,z4,z5,z6,z7,z8,z9⟩:=blk10 za.out)|(go_at_call 65;(with_reducible refine(faz.calls k a0 ya yd ye yf yg yh yi yj yk _ _ yb _ _ l2 zaf zag zah _ ?s1 zh.out ?s3 HC2.out A25.out).mono ?_);(case s1=>exact sC ze HB);(case s3=>exact sC HR2 HB);rintro e w28 ⟨zao,zap,rfl,ho0,ho1,hb⟩;have zaa:=aM (Kd.R_lower ho0 (below_size (qB1 HB zb)));have zab:=aM (Kd.R_lower ho1 (below_size (qB1 HB zb)));replace za:=bK za hb;replace HB:=bS (qB1 HB zb) hb)))
  go_ret3
  exact⟨_,_,pE,pR zaa.out,pR zab.out,qB1 HB zb⟩
 rw[ip c4] at H
 have zal:=bT c4
 have zam:=nF c4
 clear c4
 have HC5:=aM H
 clear H
 go_enter Try.func38,Try.ntmps38
 go_upto_region 3 with(first|((with_reducible refine gD 4 rfl ?_);(try (refine gate_guard (by rfl) ?_;dsimp only));refine bX 4 24 (aT ya yd ye yf yg yh yi yj yk yo yb.length yp) ?_;intro zg hg w6 hbox hb;have za:=aM (hbox);have zf:=gE (w:=w) hg (qB HB);have zb:=zf;replace HB:=bS (qB HB) hb;clear hb hbox hg))
 repeat(go_quiet (first|((with_reducible refine gD 4 rfl ?_);(try (refine gate_guard (by rfl) ?_;dsimp only));refine bX 4 24 (aT ya yd ye yf yg yh yi yj yk yo yb.length yp) ?_;intro zg hg w6 hbox hb;have za:=aM (hbox);have zf:=gE (w:=w) hg (qB HB);have zb:=zf;replace HB:=bS (qB HB) hb;clear hb hbox hg));go_upto_region 3 with(first|((with_reducible refine gD 4 rfl ?_);(try (refine gate_guard (by rfl) ?_;dsimp only));refine bX 4 24 (aT ya yd ye yf yg yh yi yj yk yo yb.length yp) ?_;intro zg hg w6 hbox hb;have za:=aM (hbox);have zf:=gE (w:=w) hg (qB HB);have zb:=zf;replace HB:=bS (qB HB) hb;clear hb hbox hg)))
 (try simp only[Act.put,sP])
 go_cut [28] (fun v28 wc=>∃ (kq:Nat) (yq:Bool),v28=.bool yq∧Aside0 (fbj.j0 kq l2 yq ya yd ye yf yg yh yi yj yk yb=some (r1,r2,r3))∧Aside0 (kq≤k)∧Aside0 (wc.heap[zg]?=some (.cells (aT ya yd ye yf yg yh yi yj yk yo yb.length yp) 24 (0,0)))∧Aside0 (Below w.heap.size w wc))
 case first =>
  have H:=HC5.out
  clear HC5
  by_cases c7:ya<0
  ·rw[ip c7] at H
   have zac:=dT c7
   clear c7
   (first|rw[zac]|(simp only[i64_w,i32_w];rw[zac])|skip)
   have H':=aM H
   clear H
   have hcz8:=blk10 za.out
   go_wp2
   repeat(go_quiet (fail);try go_wp2)
   go_meet
   case rel=>exact⟨_,(true),(pF),H',⟨pO⟩,⟨pK za.out⟩,⟨qB1 HB zb⟩⟩
  rw[iN c7] at H
  have zac:=dF c7
  clear c7
  (first|rw[zac]|(simp only[i64_w,i32_w];rw[zac])|skip)
  have H':=aM H
  clear H
  have hcz9:=blk10 za.out
  go_wp2
  repeat(go_quiet (fail);try go_wp2)
  go_meet
  case rel=>exact⟨_,(decide (ya ≥ (l2.length:Int))),(pF),H',⟨pO⟩,⟨pK za.out⟩,⟨qB1 HB zb⟩⟩
 clear HC5
 try clear c2
 try clear zal
 try clear zam
 obtain⟨kq,yq,rfl,HA,HJ4,za,HB⟩:=hcut
 cases kq with
 | zero=>exact absurd HA.out (by simp[fbj.j0])
 | succ kj4=>?_
 have H:=HA.out
 clear HA
 simp only[fbj.j0] at H
 by_cases c10:yq=true
 ·subst c10
  rw[ip rfl] at H
  replace H:=oi3 H
  obtain⟨rfl,rfl,rfl⟩:=H
  go_wp2
  repeat(go_quiet (fail);try go_wp2)
  go_ret3
  exact⟨_,_,pE,pN,pN,qB1 HB zb⟩
 replace c10:=Bool.eq_false_iff.mpr c10
 subst c10
 rw[iN fT] at H
 have H':=aM H
 clear H
 have yw:=blk10 za.out
 go_wp2
 repeat(go_quiet (fail);try go_wp2)
 go_loopg [32] kj4 (fun kq v32 w'=>∃ (yc:Int),v32=.int .i64 yc∧Aside0 (fbj.l0 kq l2 (yb.length:Int) yc ya yd ye yf yg yh yi yj yk yb=some (r1,r2,r3))∧Aside0 (kq≤kj4)∧Aside0 (w'.heap[zg]?=some (.cells (aT ya yd ye yf yg yh yi yj yk yo yb.length yp) 24 (0,0)))∧Aside0 (Below w.heap.size w w'))
 case atStart=>exact⟨(0),(pF),H',⟨Nat.le_refl _⟩,⟨pK za.out⟩,⟨qB1 HB zb⟩⟩
 clear H'
 try clear c10
 try clear yw
 obtain⟨yc,rfl,HA,HK2,za,HB⟩:=hrel
 cases gk with
 | zero=>exact absurd HA.out (by simp[fbj.l0])
 | succ k2=>?_
 have H:=HA.out
 clear HA
 simp only[fbj.l0] at H
 by_cases c12:yc<(yb.length:Int)
 rotate_left
 ·rw[iN c12] at H
  have yx:=dF c12
  clear c12
  replace H:=oB H
  obtain⟨⟨zai,zaj,zak⟩,zaq,H⟩:=H
  try dsimp only at H
  have A22:=aM zaq
  clear zaq
  replace H:=oi3 H
  obtain⟨rfl,rfl,rfl⟩:=H
  have hcz23:=blk10 za.out
  go_wp2_with (first|(go_at_call 66;(with_reducible refine(fbb.calls k2 _ _ l2 ya _ _ yb zai zaj zak _ ?s1 HC2.out ?s3 zh.out A22.out).mono ?_);(case s1=>exact sC HR2 HB);(case s3=>exact sC ze HB);rintro e w24 ⟨zar,zas,rfl,ho0,ho1,hb⟩;have zad:=aM (Kd.R_lower ho0 (below_size (qB1 HB zb)));have zae:=aM (Kd.R_lower ho1 (below_size (qB1 HB zb)));replace za:=bK za hb;replace HB:=bS (qB1 HB zb) hb))
  repeat(go_quiet (first|(go_at_call 66;(with_reducible refine(fbb.calls k2 _ _ l2 ya _ _ yb zai zaj zak _ ?s1 HC2.out ?s3 zh.out A22.out).mono ?_);(case s1=>exact sC HR2 HB);(case s3=>exact sC ze HB);rintro e w24 ⟨zar,zas,rfl,ho0,ho1,hb⟩;have zad:=aM (Kd.R_lower ho0 (below_size (qB1 HB zb)));have zae:=aM (Kd.R_lower ho1 (below_size (qB1 HB zb)));replace za:=bK za hb;replace HB:=bS (qB1 HB zb) hb));try go_wp2_with (first|(go_at_call 66;(with_reducible refine(fbb.calls k2 _ _ l2 ya _ _ yb zai zaj zak _ ?s1 HC2.out ?s3 zh.out A22.out).mono ?_);(case s1=>exact sC HR2 HB);(case s3=>exact sC ze HB);rintro e w24 ⟨zar,zas,rfl,ho0,ho1,hb⟩;have zad:=aM (Kd.R_lower ho0 (below_size (qB1 HB zb)));have zae:=aM (Kd.R_lower ho1 (below_size (qB1 HB zb)));replace za:=bK za hb;replace HB:=bS (qB1 HB zb) hb)))
  go_ret3
  exact⟨_,_,pE,pR zad.out,pR zae.out,qB1 HB zb⟩
 rw[ip c12] at H
 have yx:=dT c12
 clear c12
 by_cases c13:0≤yc
 rotate_left
 ·rw[iN c13] at H
  cases H
 rw[ip c13] at H
 have c13b0:=dT c13
 clear c13
 by_cases c14:yc<(yb.length:Int)
 rotate_left
 ·rw[iN c14] at H
  cases H
 rw[ip c14] at H
 have c14b0:=dT c14
 clear c14
 by_cases c15:(rd yb yc)<0
 ·rw[ip c15] at H
  have yy:=dT c15
  clear c15
  replace H:=oi3 H
  obtain⟨rfl,rfl,rfl⟩:=H
  have hcz16:=blk10 za.out
  obtain⟨yr,⟨⟩,yl,yz,y0⟩:=zI ze.out yc
  replace yl:=zW HB yl
  go_wp2
  repeat(go_quiet (fail);try go_wp2)
  go_ret3
  exact⟨_,_,pE,pN,pN,qB1 HB zb⟩
 rw[iN c15] at H
 have yy:=dF c15
 clear c15
 by_cases c17:0≤ya
 rotate_left
 ·rw[iN c17] at H
  cases H
 rw[ip c17] at H
 have c17b0:=dT c17
 clear c17
 by_cases c18:ya<(l2.length:Int)
 rotate_left
 ·rw[iN c18] at H
  cases H
 rw[ip c18] at H
 have c18b0:=dT c18
 clear c18
 by_cases c19:(rd yb yc) ≥ (rd l2 ya)
 ·rw[ip c19] at H
  have y1:decide ((rd l2 ya)≤(rd yb yc))=true:=decide_eq_true c19
  clear c19
  replace H:=oi3 H
  obtain⟨rfl,rfl,rfl⟩:=H
  have hcz20:=blk10 za.out
  obtain⟨yr,⟨⟩,yl,yz,y0⟩:=zI ze.out yc
  replace yl:=zW HB yl
  obtain⟨ys,yv,ym,y3,y4⟩:=zI ze.out yc
  obtain rfl:yr=ys:=(by injection yv)
  replace ym:=zW HB ym
  obtain⟨y2,⟨⟩,yn,y5,y6⟩:=zI HR2.out ya
  replace yn:=zW HB yn
  go_wp2
  repeat(go_quiet (fail);try go_wp2)
  go_ret3
  exact⟨_,_,pE,pN,pN,qB1 HB zb⟩
 rw[iN c19] at H
 have y1:decide ((rd l2 ya)≤(rd yb yc))=false:=decide_eq_false c19
 clear c19
 have H':=aM H
 clear H
 have hcz21:=blk10 za.out
 obtain⟨yr,⟨⟩,yl,yz,y0⟩:=zI ze.out yc
 replace yl:=zW HB yl
 obtain⟨ys,yv,ym,y3,y4⟩:=zI ze.out yc
 obtain rfl:yr=ys:=(by injection yv)
 replace ym:=zW HB ym
 obtain⟨y2,⟨⟩,yn,y5,y6⟩:=zI HR2.out ya
 replace yn:=zW HB yn
 go_wp2
 repeat(go_quiet (fail);try go_wp2)
 go_roundg k2
 case measure=>have:=HJ4.out;have:=HK2.out;omega
 case rel=>exact⟨(wrap64 (yc+1)),(pF),H',⟨pO2 HJ4 HK2⟩,⟨pK za.out⟩,⟨qB1 HB zb⟩⟩
mutual
def fbg.j0:Nat→Int→List (List Int)→Bool→Int→Int→Int→Int→Int→Int→Int→Int→Bool→List Int→Option (List Int×List Int×List Int×Int)
 | 0,_,_,_,_,_,_,_,_,_,_,_,_,_=>none
 | k+1,x0,x2,x19,zl,zm,zn,zo,zp,zq,zr,zs,zt,zu=>if x19=true then(some (([]:List Int),([]:List Int),([]:List Int),14))else(if x0=40 then(if(x2.length:Int)=2 then(fbg.j1 k x0 x2 false zl zm zn zo zp zq zr zs zt zu)else(fbg.j1 k x0 x2 true zl zm zn zo zp zq zr zs zt zu))else(fbg.j1 k x0 x2 ((x2.length:Int) != 1) zl zm zn zo zp zq zr zs zt zu))
def fbg.j1:Nat→Int→List (List Int)→Bool→Int→Int→Int→Int→Int→Int→Int→Int→Bool→List Int→Option (List Int×List Int×List Int×Int)
 | 0,_,_,_,_,_,_,_,_,_,_,_,_,_=>none
 | k+1,x0,x2,x36,zl,zm,zn,zo,zp,zq,zr,zs,zt,zu=>if x36=true then(some (([]:List Int),([]:List Int),([]:List Int),1))else(fbg.l0 k x0 x2 (x2.length:Int) 0 zl zm zn zo zp zq zr zs zt zu)
def fbg.l0:Nat→Int→List (List Int)→Int→Int→Int→Int→Int→Int→Int→Int→Int→Int→Bool→List Int→Option (List Int×List Int×List Int×Int)
 | 0,_,_,_,_,_,_,_,_,_,_,_,_,_,_=>none
 | k+1,x0,x2,x39,x40,zl,zm,zn,zo,zp,zq,zr,zs,zt,zu=>if x40<x39 then(if 0≤x40 then(if x40<(x2.length:Int)then((fag.f k (rd_L1 x2 x40)).bind fun z5=>(if z5=0 then(fbg.l0 k x0 x2 x39 (wrap64 (x40+1)) zl zm zn zo zp zq zr zs zt zu)else(some (([]:List Int),([]:List Int),([]:List Int),z5))))else(none))else(none))else(if x0=39 then(if 0<(x2.length:Int)then((fbi.f k (rd_L1 x2 0) zl zm zn zo zp zq zr zs zt zu).bind fun bt826=>(some (bt826.1,bt826.2.1,bt826.2.2.1,bt826.2.2.2)))else(none))else(if x0=40 then(if 0<(x2.length:Int)then(if 1<(x2.length:Int)then((fbh.f k (rd_L1 x2 0) (rd_L1 x2 1) zl).bind fun bt838=>(some (bt838.1,bt838.2.1,bt838.2.2.1,bt838.2.2.2)))else(none))else(none))else(if 0<(x2.length:Int)then((fbj.f k x0 zl zm zn zo zp zq zr zs zt zu (rd_L1 x2 0)).bind fun bt849=>(if bt849.2.2=0 then(fbg.l1 k (bt849.2.1.length:Int) 0 bt849.1 ([]:List Int) bt849.2.1)else(some (([]:List Int),([]:List Int),([]:List Int),bt849.2.2))))else(none))))
def fbg.l1:Nat→Int→Int→List Int→List Int→List Int→Option (List Int×List Int×List Int×Int)
 | 0,_,_,_,_,_=>none
 | k+1,x93,x94,zak,z6,zal=>if x94<x93 then(if z6.length<17592186044416 then(fbg.l1 k x93 (wrap64 (x94+1)) zak (z6++[0]) zal)else(none))else(some (zak,z6,zal,0))
end
def fbg.f (k:Nat) (a0 yg yh yi yj yk yl ym yn:Int)(yo:Bool)(ye:List Int)(l2:List (List Int)):Option (List Int×List Int×List Int×Int):=if a0<33 then(fbg.j0 k a0 l2 true yg yh yi yj yk yl ym yn yo ye)else(fbg.j0 k a0 l2 (decide (a0 > 40)) yg yh yi yj yk yl ym yn yo ye)
def fbg.T13:TT:=(true,[([],[]),([0],[0]),([1],[1]),([],[]),([2,3],[2,3]),([4],[4]),([4],[4]),([5,4,0,1,2,3,4,5,6],[5]),([6,7,0,1,2,3,4,5,6,7],[6])])
def fbg.B13:List Nat:=[0,1,3,0,15,31,31,127,255]
theorem fbg.tab13:rtab .any (opsOf Try.f11 13)=fbg.T13:=by kernel_rfl
theorem fbg.bits13:waitsOk fbg.T13.2 fbg.B13=true:=by kernel_rfl
def fbg.T15:TT:=(true,[([],[]),([0],[0]),([1],[1]),([],[]),([3],[3]),([4],[4]),([],[]),([6],[6]),([2,5,7],[2,5,7]),([8],[8]),([8],[8]),([9,8,0,1,2,3,4,5,6,7,8,9,10],[9]),([10,11,0,1,2,3,4,5,6,7,8,9,10,11],[10])])
def fbg.B15:List Nat:=[0,1,3,0,8,24,0,64,255,511,511,2047,4095]
theorem fbg.tab15:rtab .any (opsOf Try.f11 15)=fbg.T15:=by kernel_rfl
theorem fbg.bits15:waitsOk fbg.T15.2 fbg.B15=true:=by kernel_rfl
def fbg.T16:TT:=(true,[([],[]),([],[]),([],[]),([2],[2]),([3],[3]),([0,1,4],[0,1,4]),([5],[5]),([6],[6]),([6],[6]),([6],[6]),([7,5,0,1,2,3,4,5,6,7],[7]),([8,10,0,1,2,3,4,5,6,7,8,10],[8]),([9,11,0,1,2,3,4,5,6,7,8,9,10,11],[9])])
def fbg.B16:List Nat:=[0,0,0,4,12,31,63,127,127,127,255,1535,4095]
theorem fbg.tab16:rtab .any (opsOf Try.f11 16)=fbg.T16:=by kernel_rfl
theorem fbg.bits16:waitsOk fbg.T16.2 fbg.B16=true:=by kernel_rfl
theorem fbg.calls (k:Nat) (a0 yg yh yi yj yk yl ym yn:Int)(yo:Bool)(yt:Option Addr)(yu:Nat)(ye:List Int)(A2:Option Addr)(c2:Nat)(l2:List (List Int))(r1 r2 r3:List Int)(r4:Int)(w:World)(yaq:Kd.C (Kd.int .i64) w yt ye.length ye)(yar:ye.length≤yu)(hr2:Kd.C (Kd.slice 3 (Kd.int .i64)) w A2 l2.length l2)(hc2:l2.length≤c2)(h:fbg.f k a0 yg yh yi yj yk yl ym yn yo ye l2=some (r1,r2,r3,r4)) :
  Calls Try.prog 11 #[.int .i64 a0,.agg #[.int .i64 yg,.int .i64 yh,.int .i64 yi,.int .i64 yj,.int .i64 yk,.int .i64 yl,.int .i64 ym,.int .i64 yn,.bool yo,.slice yt ye.length yu],.slice A2 l2.length c2] w fun e w'=>∃ v0_ v1_ v2_:Value,e=.returned (.tuple #[.agg #[v0_,v1_,v2_],.int .i64 r4])∧Kd.R (Kd.int .i64) 3 w' w.heap.size (fun k_=>some k_≠(v1_:Value).ownBlock∧some k_≠(v2_:Value).ownBlock) v0_ r1∧Kd.R (Kd.int .i64) 3 w' w.heap.size (fun k_=>some k_≠(v0_:Value).ownBlock∧some k_≠(v2_:Value).ownBlock) v1_ r2∧Kd.R (Kd.int .i64) 3 w' w.heap.size (fun k_=>some k_≠(v0_:Value).ownBlock∧some k_≠(v1_:Value).ownBlock) v2_ r3∧Below w.heap.size w w':=by
 have hu24:=Try.underlying24
 have hu32:=Try.underlying32
 have zaq:=aM yaq
 have zar:=aM yar
 clear yaq yar
 have HR2:=aM hr2
 have HC2:=aM hc2
 clear hr2 hc2
 have HB:=aM (Below.refl w.heap.size w)
 have H:(if a0<33 then(fbg.j0 k a0 l2 true yg yh yi yj yk yl ym yn yo ye)else(fbg.j0 k a0 l2 (decide (a0 > 40)) yg yh yi yj yk yl ym yn yo ye))=some (r1,r2,r3,r4):=h
 clear h
 have HC4:=aM H
 clear H
 go_enter Try.func11,Try.ntmps11
 go_upto_region 1 with(first|((with_reducible refine gD 4 rfl ?_);(try (refine gate_guard (by rfl) ?_;dsimp only));refine bX 4 24 (aT yg yh yi yj yk yl ym yn yo yt ye.length yu) ?_;intro ze hg w5 hbox hb;have zb:=aM (hbox);have GW821:=gE (w:=w) hg (qB HB);have zf:=GW821;replace HB:=bS (qB HB) hb;clear hb hbox hg)|((with_reducible refine gD 6 rfl ?_);(try (refine gate_guard (by rfl) ?_;dsimp only));refine bX 6 32 #[.slice none 0 0,.slice none 0 0,.slice none 0 0] ?_;intro zc hg w6 hbox hb;have zd:=aM (hbox);have zg:=gE (w:=w) hg (qB1 HB zf);have zh:=zg;replace HB:=bS (qB1 HB zf) hb;have za:=nL hg zb;have zi:=nG hg zb;replace zb:=bK zb hb;clear hb hbox hg))
 (try simp only[Act.put,sP])
 go_cut [19] (fun v19 wc=>∃ (kq:Nat) (y6:Bool),v19=.bool y6∧Aside0 (fbg.j0 kq a0 l2 y6 yg yh yi yj yk yl ym yn yo ye=some (r1,r2,r3,r4))∧Aside0 (kq≤k)∧Aside0 (wc.heap[ze]?=some (.cells (aT yg yh yi yj yk yl ym yn yo yt ye.length yu) 24 (0,0)))∧Aside0 (wc.heap[zc]?=some (.cells #[(.slice none 0 0),(.slice none 0 0),(.slice none 0 0)] 32 (0,0)))∧Aside0 (Below w.heap.size w wc))
 case first =>
  have H:=HC4.out
  clear HC4
  by_cases c7:a0<33
  ·rw[ip c7] at H
   have zas:=dT c7
   clear c7
   (first|rw[zas]|(simp only[i64_w,i32_w];rw[zas])|skip)
   have H':=aM H
   clear H
   go_wp2
   go_meet
   case rel=>exact⟨_,(true),(pF),H',⟨pO⟩,⟨pK zb.out⟩,⟨pK zd.out⟩,⟨qB2 HB zf zh⟩⟩
  rw[iN c7] at H
  have zas:=dF c7
  clear c7
  (first|rw[zas]|(simp only[i64_w,i32_w];rw[zas])|skip)
  have H':=aM H
  clear H
  go_wp2
  go_meet
  case rel=>exact⟨_,(decide (a0 > 40)),(pF),H',⟨pO⟩,⟨pK zb.out⟩,⟨pK zd.out⟩,⟨qB2 HB zf zh⟩⟩
 clear HC4
 try clear c2
 obtain⟨kq,y6,rfl,HA,HJ3,zb,zd,HB⟩:=hcut
 cases kq with
 | zero=>exact absurd HA.out (by simp[fbg.j0])
 | succ kj3=>?_
 have H:=HA.out
 clear HA
 simp only[fbg.j0] at H
 by_cases c8:y6=true
 ·subst c8
  rw[ip rfl] at H
  replace H:=oi4 H
  obtain⟨rfl,rfl,rfl,rfl⟩:=H
  have hnb9:=zi.out
  have hnc9:=za.out
  have hcz10:=blk3 zd.out
  go_wp2
  refine bodyPost_ret (results_ct rfl _ _ zc 32 #[.slice none 0 0,.slice none 0 0,.slice none 0 0] (0,0) _ rfl (by exact P3 zd) Try.underlying32 rfl (by kernel_rfl)) rfl ?_
  exact⟨_,_,_,pE,pN,pN,pN,qB2 HB zf zh⟩
 replace c8:=Bool.eq_false_iff.mpr c8
 subst c8
 rw[iN fT] at H
 have HC11:=aM H
 clear H
 go_upto_region 3 with(fail)
 go_cut [36] (fun v36 wc=>∃ (kq:Nat) (y3:Bool),v36=.bool y3∧Aside0 (fbg.j1 kq a0 l2 y3 yg yh yi yj yk yl ym yn yo ye=some (r1,r2,r3,r4))∧Aside0 (kq≤kj3)∧Aside0 (wc.heap[ze]?=some (.cells (aT yg yh yi yj yk yl ym yn yo yt ye.length yu) 24 (0,0)))∧Aside0 (wc.heap[zc]?=some (.cells #[(.slice none 0 0),(.slice none 0 0),(.slice none 0 0)] 32 (0,0)))∧Aside0 (Below w.heap.size w wc))
 case first =>
  have H:=HC11.out
  clear HC11
  by_cases c12:a0=40
  rotate_left
  ·rw[iN c12] at H
   have zaa:=bF c12
   have yaw:=nT c12
   (first|rw[zaa]|(simp only[i64_w,i32_w];rw[zaa])|skip)
   have H':=aM H
   clear H
   go_wp2
   go_meet
   case rel=>exact⟨_,(((l2.length:Int) != 1)),(pF),H',⟨pO1 HJ3⟩,⟨pK zb.out⟩,⟨pK zd.out⟩,⟨qB2 HB zf zh⟩⟩
  rw[ip c12] at H
  have zaa:=bT c12
  have yaw:=nF c12
  clear c12
  (first|rw[zaa]|(simp only[i64_w,i32_w];rw[zaa])|skip)
  by_cases c13:(l2.length:Int)=2
  rotate_left
  ·rw[iN c13] at H
   have yax:=bF c13
   have yay:=nT c13
   have H':=aM H
   clear H
   go_wp2
   go_meet
   case rel=>exact⟨_,(true),(pF),H',⟨pO1 HJ3⟩,⟨pK zb.out⟩,⟨pK zd.out⟩,⟨qB2 HB zf zh⟩⟩
  rw[ip c13] at H
  have yax:=bT c13
  have yay:=nF c13
  clear c13
  have H':=aM H
  clear H
  go_wp2
  go_meet
  case rel=>exact⟨_,(false),(pF),H',⟨pO1 HJ3⟩,⟨pK zb.out⟩,⟨pK zd.out⟩,⟨qB2 HB zf zh⟩⟩
 clear HC11
 try clear c8
 obtain⟨kq,y3,rfl,HA,zau,zb,zd,HB⟩:=hcut
 cases kq with
 | zero=>exact absurd HA.out (by simp[fbg.j1])
 | succ zbb=>?_
 have H:=HA.out
 clear HA
 simp only[fbg.j1] at H
 by_cases c14:y3=true
 ·subst c14
  rw[ip rfl] at H
  replace H:=oi4 H
  obtain⟨rfl,rfl,rfl,rfl⟩:=H
  have hnb15:=zi.out
  have hnc15:=za.out
  have hcz16:=blk3 zd.out
  go_wp2
  refine bodyPost_ret (results_ct rfl _ _ zc 32 #[.slice none 0 0,.slice none 0 0,.slice none 0 0] (0,0) _ rfl (by exact P3 zd) Try.underlying32 rfl (by kernel_rfl)) rfl ?_
  exact⟨_,_,_,pE,pN,pN,pN,qB2 HB zf zh⟩
 replace c14:=Bool.eq_false_iff.mpr c14
 subst c14
 rw[iN fT] at H
 have H':=aM H
 clear H
 go_wp2
 go_loopg [40] zbb (fun kq v40 w'=>∃ (yp:Int),v40=.int .i64 yp∧Aside0 (fbg.l0 kq a0 l2 (l2.length:Int) yp yg yh yi yj yk yl ym yn yo ye=some (r1,r2,r3,r4))∧Aside0 (kq≤zbb)∧Aside0 (w'.heap[ze]?=some (.cells (aT yg yh yi yj yk yl ym yn yo yt ye.length yu) 24 (0,0)))∧Aside0 (w'.heap[zc]?=some (.cells #[(.slice none 0 0),(.slice none 0 0),(.slice none 0 0)] 32 (0,0)))∧Aside0 (Below w.heap.size w w'))
 case atStart=>exact⟨(0),(pF),H',⟨Nat.le_refl _⟩,⟨pK zb.out⟩,⟨pK zd.out⟩,⟨qB2 HB zf zh⟩⟩
 clear H'
 try clear c14
 obtain⟨yp,rfl,HA,HK3,zb,zd,HB⟩:=hrel
 cases gk with
 | zero=>exact absurd HA.out (by simp[fbg.l0])
 | succ k3=>?_
 have H:=HA.out
 clear HA
 simp only[fbg.l0] at H
 by_cases c17:yp<(l2.length:Int)
 ·rw[ip c17] at H
  have zax:=dT c17
  clear c17
  by_cases c18:0≤yp
  rotate_left
  ·rw[iN c18] at H
   cases H
  rw[ip c18] at H
  have c18b0:=dT c18
  clear c18
  by_cases c19:yp<(l2.length:Int)
  rotate_left
  ·rw[iN c19] at H
   cases H
  rw[ip c19] at H
  have c19b0:=dT c19
  clear c19
  replace H:=oB H
  obtain⟨z5,zbc,H⟩:=H
  try dsimp only at H
  have A20:=aM zbc
  clear zbc
  by_cases c21:z5=0
  rotate_left
  ·rw[iN c21] at H
   have yaz:=bF c21
   have ya0:=nT c21
   replace H:=oi4 H
   obtain⟨rfl,rfl,rfl,rfl⟩:=H
   have yas:0≤(yp:Int):=oD
   have yat:yp<(l2.length:Int):=oD
   obtain⟨ya1,y4,y5,yau,yv,yw,yx⟩:=at_L1 HR2.out yp yas yat
   cases yau
   replace yv:=zW HB yv
   have z7:=aM yx
   have z8:=aM yw
   clear yx yw
   go_wp2_with (first|((with_reducible refine gC 30 rfl ?_);refine gL 47 Try.func30 #[.slice y4 (rd_L1 l2 yp).length y5] ?_;(with_reducible refine(fag.calls k3 _ _ (rd_L1 l2 yp) z5 _ ?s1 z8.out A20.out).mono ?_);(case s1=>exact sC z7 HB);rintro e w' ⟨rfl,⟨nd,rfl⟩⟩;refine⟨_,rfl,?_⟩;(try (rw[drewN_self wr];generalize hq_:World.drewN wr _=wr;have n0_:Aside0 (wr.heap[ze]?=some (.cells (aT yg yh yi yj yk yl ym yn yo yt ye.length yu) 24 (0,0))):=⟨by rw[← hq_];exact(pK zb.out)⟩;have n1_:Aside0 (wr.heap[zc]?=some (.cells #[.slice none 0 0,.slice none 0 0,.slice none 0 0] 32 (0,0))):=⟨by rw[← hq_];exact(pK zd.out)⟩;have n2_:Aside0 (Below w.heap.size w wr):=⟨by rw[← hq_];exact(qB2 HB zf zh)⟩;clear zb zd HB hq_;have zb:=n0_;have zd:=n1_;have HB:=n2_;clear n0_ n1_ n2_));have hnb22:=zi.out;have hnc22:=za.out;have hcz23:=blk3 zd.out))
   refine bodyPost_ret (results_ct rfl _ _ zc 32 #[.slice none 0 0,.slice none 0 0,.slice none 0 0] (0,0) _ rfl (by exact P3 zd) Try.underlying32 rfl (by kernel_rfl)) rfl ?_
   exact⟨_,_,_,pE,pN,pN,pN,qB2 HB zf zh⟩
  rw[ip c21] at H
  have yaz:=bT c21
  have ya0:=nF c21
  clear c21
  have H':=aM H
  clear H
  have yas:0≤(yp:Int):=oD
  have yat:yp<(l2.length:Int):=oD
  obtain⟨ya1,y4,y5,yau,yv,yw,yx⟩:=at_L1 HR2.out yp yas yat
  cases yau
  replace yv:=zW HB yv
  have z7:=aM yx
  have z8:=aM yw
  clear yx yw
  go_wp2_with (first|((with_reducible refine gC 30 rfl ?_);refine gL 47 Try.func30 #[.slice y4 (rd_L1 l2 yp).length y5] ?_;(with_reducible refine(fag.calls k3 _ _ (rd_L1 l2 yp) z5 _ ?s1 z8.out A20.out).mono ?_);(case s1=>exact sC z7 HB);rintro e w' ⟨rfl,⟨nd,rfl⟩⟩;refine⟨_,rfl,?_⟩))
  go_roundg k3
  case measure=>have:=HJ3.out;have:=zau.out;have:=HK3.out;omega
  case rel=>exact⟨(wrap64 (yp+1)),(pF),H',⟨by have:=HJ3.out;have:=zau.out;have:=HK3.out;omega⟩,⟨pK zb.out⟩,⟨pK zd.out⟩,⟨qB2 HB zf zh⟩⟩
 rw[iN c17] at H
 have zax:=dF c17
 clear c17
 by_cases c24:a0=39
 ·rw[ip c24] at H
  have zay:=bT c24
  have zaz:=nF c24
  clear c24
  by_cases c25:0<(l2.length:Int)
  rotate_left
  ·rw[iN c25] at H
   cases H
  rw[ip c25] at H
  have c25b0:=dT c25
  have c25b1:decide (0<l2.length)=true:=decide_eq_true (by omega)
  clear c25
  replace H:=oB H
  obtain⟨⟨zbd,zbe,zbf,t835⟩,zbg,H⟩:=H
  try dsimp only at H
  have A26:=aM zbg
  clear zbg
  replace H:=oi4 H
  obtain⟨rfl,rfl,rfl,rfl⟩:=H
  try go_wp2
  replace zb:=aM (blk_drew zb.out)
  replace zd:=aM (blk_drew zd.out)
  replace HB:=aM (below_drew1 HB.out)
  have ya8:0≤(0:Int):=(by omega)
  have ya9:0<(l2.length:Int):=oD
  obtain⟨ya2,yae,yaf,yba,yq,y7,y8⟩:=at_L1 HR2.out 0 ya8 ya9
  have ya:=yq
  (try rw[show ((0:Int)).toNat=0 from rfl] at ya)
  (try rw[show 0*1=0 from rfl] at ya)
  (try rw[Addr.add_zero'] at ya)
  cases yba
  have qi825:(0<l2.length)=True:=eq_true (by omega)
  (try rw[show ((0:Int)).toNat=0 from rfl] at yq)
  (try rw[Addr.add_zero'] at yq)
  replace yq:=zW HB yq
  have zam:=aM y8
  have yal:=aM y7
  clear y8 y7
  refine sT 9 [] (fun w'=>w'.cell? ⟨ze,0,none⟩=some (.int .i64 yg)∧w'.cell? ⟨ze,1,none⟩=some (.int .i64 yh)∧w'.cell? ⟨ze,2,none⟩=some (.int .i64 yi)∧w'.cell? ⟨ze,3,none⟩=some (.int .i64 yj)∧w'.cell? ⟨ze,4,none⟩=some (.int .i64 yk)∧w'.cell? ⟨ze,5,none⟩=some (.int .i64 yl)∧w'.cell? ⟨ze,6,none⟩=some (.int .i64 ym)∧w'.cell? ⟨ze,7,none⟩=some (.int .i64 yn)∧w'.cell? ⟨ze,8,none⟩=some (.bool yo)∧w'.cell? ⟨ze,9,none⟩=some (.slice yt ye.length yu)∧w'.cell? ya2=some (.slice yae (rd_L1 l2 0).length yaf)) fbg.tab13 fbg.bits13 (c10 zb (zW HB ya)) (fun hHeld HT_ HW_=>?_)
  generalize wr.drew=w27 at zb zd HB zam yq hHeld ⊢
  refine pQ 0 55 9 1 HT_ ?_
  refine pQ 1 56 9 3 HT_ ?_
  refine pU11 2 57 9 7 HT_ HW_ hHeld ?_
  refine pU11 3 58 9 15 HT_ HW_ hHeld ?_
  refine oN 4 59 9 31 HT_ (fun K hK=>?_)
  refine gS Try.func36 #[.slice yae (rd_L1 l2 0).length yaf,.agg (aT yg yh yi yj yk yl ym yn yo yt ye.length yu)] ?_
  with_reducible refine(fbi.calls k3 _ _ (rd_L1 l2 0) yg yh yi yj yk yl ym yn yo _ _ ye zbd zbe zbf t835 _ ?s1 yal.out ?s3 zar.out A26.out).mono ?_
  (case s1=>exact sC zam HB)
  (case s3=>exact sC zaq HB)
  rintro e w28 ⟨v827,v830,v833,rfl,ho0,ho1,ho2,hb⟩
  refine⟨_,rfl,?_⟩
  have za0:=aM (Kd.R_lower ho0 (below_size (qB2 HB zf zh)))
  have za1:=aM (Kd.R_lower ho1 (below_size (qB2 HB zf zh)))
  have za2:=aM (Kd.R_lower ho2 (below_size (qB2 HB zf zh)))
  replace zb:=bK zb hb
  replace zd:=bK zd hb
  replace HB:=bS (qB2 HB zf zh) hb
  obtain⟨ybb,ybc,zbh⟩:=Kd.R_slice za0.out
  (first|subst zbh|(injection zbh with f1_ f2_ f3_;have f4_:=f1_.symm;have f5_:=f3_.symm;clear f1_ f2_ f3_;subst f4_;subst f5_))
  obtain⟨ybd,ybe,zbi⟩:=Kd.R_slice za1.out
  (first|subst zbi|(injection zbi with f1_ f2_ f3_;have f4_:=f1_.symm;have f5_:=f3_.symm;clear f1_ f2_ f3_;subst f4_;subst f5_))
  obtain⟨ybf,ybg,zbj⟩:=Kd.R_slice za2.out
  (first|subst zbj|(injection zbj with f1_ f2_ f3_;have f4_:=f1_.symm;have f5_:=f3_.symm;clear f1_ f2_ f3_;subst f4_;subst f5_))
  refine hK.out _ _ (c10 zb (zW HB ya)) (fun hHeld=>?_)
  clear hK K
  refine nM 59 ?_
  refine pQ 5 60 9 63 HT_ ?_
  refine pQ 6 61 9 127 HT_ ?_
  refine one_ (i:=7) (N:=none) (bm 9 255) rfl rfl (one_of HT_.out (by kernel_rfl)) (by decide) (fun K hK=>?_)
  have hs30:w28.cell? ⟨zc,0,none⟩=some (.slice none 0 0):=(blk_cell zd.out 0).trans rfl
  have hfs30:=blk_frozen zd.out 0
  have hns30_0:=za.out
  have hms30_0:=zi.out
  have hs32:w28.cell? ⟨zc,1,none⟩=some (.slice none 0 0):=(blk_cell zd.out 1).trans rfl
  have hfs32:=blk_frozen zd.out 1
  have hns32_0:=za.out
  have hms32_0:=zi.out
  have hs34:w28.cell? ⟨zc,2,none⟩=some (.slice none 0 0):=(blk_cell zd.out 2).trans rfl
  have hfs34:=blk_frozen zd.out 2
  have hns34_0:=za.out
  have hms34_0:=zi.out
  refine skip_ (w1:=?_) (by rfl) rfl ?_ ?_
  rotate_left
  ·go_simp
   rfl
  refine hK.out _ _ ⟨((cell_far (p:=⟨zc,_,none⟩) za.out _).trans (((cell_far (p:=⟨zc,_,none⟩) za.out _).trans (((cell_far (p:=⟨zc,_,none⟩) za.out _).trans (hHeld.1)))))),((cell_far (p:=⟨zc,_,none⟩) za.out _).trans (((cell_far (p:=⟨zc,_,none⟩) za.out _).trans (((cell_far (p:=⟨zc,_,none⟩) za.out _).trans (hHeld.2.1)))))),((cell_far (p:=⟨zc,_,none⟩) za.out _).trans (((cell_far (p:=⟨zc,_,none⟩) za.out _).trans (((cell_far (p:=⟨zc,_,none⟩) za.out _).trans (hHeld.2.2.1)))))),((cell_far (p:=⟨zc,_,none⟩) za.out _).trans (((cell_far (p:=⟨zc,_,none⟩) za.out _).trans (((cell_far (p:=⟨zc,_,none⟩) za.out _).trans (hHeld.2.2.2.1)))))),((cell_far (p:=⟨zc,_,none⟩) za.out _).trans (((cell_far (p:=⟨zc,_,none⟩) za.out _).trans (((cell_far (p:=⟨zc,_,none⟩) za.out _).trans (hHeld.2.2.2.2.1)))))),((cell_far (p:=⟨zc,_,none⟩) za.out _).trans (((cell_far (p:=⟨zc,_,none⟩) za.out _).trans (((cell_far (p:=⟨zc,_,none⟩) za.out _).trans (hHeld.2.2.2.2.2.1)))))),((cell_far (p:=⟨zc,_,none⟩) za.out _).trans (((cell_far (p:=⟨zc,_,none⟩) za.out _).trans (((cell_far (p:=⟨zc,_,none⟩) za.out _).trans (hHeld.2.2.2.2.2.2.1)))))),((cell_far (p:=⟨zc,_,none⟩) za.out _).trans (((cell_far (p:=⟨zc,_,none⟩) za.out _).trans (((cell_far (p:=⟨zc,_,none⟩) za.out _).trans (hHeld.2.2.2.2.2.2.2.1)))))),((cell_far (p:=⟨zc,_,none⟩) za.out _).trans (((cell_far (p:=⟨zc,_,none⟩) za.out _).trans (((cell_far (p:=⟨zc,_,none⟩) za.out _).trans (hHeld.2.2.2.2.2.2.2.2.1)))))),((cell_far (p:=⟨zc,_,none⟩) za.out _).trans (((cell_far (p:=⟨zc,_,none⟩) za.out _).trans (((cell_far (p:=⟨zc,_,none⟩) za.out _).trans (hHeld.2.2.2.2.2.2.2.2.2.1)))))),((cell_far (p:=⟨zc,_,none⟩) (by first|exact Nat.ne_of_lt (Nat.lt_of_lt_of_le (by have:=World.block_lt_of_cell? _ _ ya;first|rwa [add_block] at this|exact this) zg.out)|(rw[add_block];exact Nat.ne_of_lt (Nat.lt_of_lt_of_le (by have:=World.block_lt_of_cell? _ _ ya;first|rwa [add_block] at this|exact this) zg.out))|(show (Addr.add _ _).block≠_;rw[add_block];exact Nat.ne_of_lt (Nat.lt_of_lt_of_le (by have:=World.block_lt_of_cell? _ _ ya;first|rwa [add_block] at this|exact this) zg.out))|(dsimp only;exact Nat.ne_of_lt (Nat.lt_of_lt_of_le (by have:=World.block_lt_of_cell? _ _ ya;first|rwa [add_block] at this|exact this) zg.out))) _).trans (((cell_far (p:=⟨zc,_,none⟩) (by first|exact Nat.ne_of_lt (Nat.lt_of_lt_of_le (by have:=World.block_lt_of_cell? _ _ ya;first|rwa [add_block] at this|exact this) zg.out)|(rw[add_block];exact Nat.ne_of_lt (Nat.lt_of_lt_of_le (by have:=World.block_lt_of_cell? _ _ ya;first|rwa [add_block] at this|exact this) zg.out))|(show (Addr.add _ _).block≠_;rw[add_block];exact Nat.ne_of_lt (Nat.lt_of_lt_of_le (by have:=World.block_lt_of_cell? _ _ ya;first|rwa [add_block] at this|exact this) zg.out))|(dsimp only;exact Nat.ne_of_lt (Nat.lt_of_lt_of_le (by have:=World.block_lt_of_cell? _ _ ya;first|rwa [add_block] at this|exact this) zg.out))) _).trans (((cell_far (p:=⟨zc,_,none⟩) (by first|exact Nat.ne_of_lt (Nat.lt_of_lt_of_le (by have:=World.block_lt_of_cell? _ _ ya;first|rwa [add_block] at this|exact this) zg.out)|(rw[add_block];exact Nat.ne_of_lt (Nat.lt_of_lt_of_le (by have:=World.block_lt_of_cell? _ _ ya;first|rwa [add_block] at this|exact this) zg.out))|(show (Addr.add _ _).block≠_;rw[add_block];exact Nat.ne_of_lt (Nat.lt_of_lt_of_le (by have:=World.block_lt_of_cell? _ _ ya;first|rwa [add_block] at this|exact this) zg.out))|(dsimp only;exact Nat.ne_of_lt (Nat.lt_of_lt_of_le (by have:=World.block_lt_of_cell? _ _ ya;first|rwa [add_block] at this|exact this) zg.out))) _).trans (hHeld.2.2.2.2.2.2.2.2.2.2))))))⟩ (fun hHeld=>?_)
  clear hK K
  refine pQ 8 7 9 511 HT_ ?_
  refine dN HT_ ?_
  try go_wp2
  refine bodyPost_ret (results_ct rfl _ _ zc 32 #[.slice ybb zbd.length ybc,.slice ybd zbe.length ybe,.slice ybf zbf.length ybg] (0,0) _ rfl (by exact P3 zd) Try.underlying32 rfl (by kernel_rfl)) rfl ?_
  exact⟨_,_,_,pE,by(with_reducible repeat(first|apply rA|apply rN|apply rD));exact F3 za0 zd (fun _ hk=>⟨hk.1.1,hk.1.2⟩),by(with_reducible repeat(first|apply rA|apply rN|apply rD));exact F3 za1 zd (fun _ hk=>⟨hk.1.1,hk.1.2⟩),by(with_reducible repeat(first|apply rA|apply rN|apply rD));exact F3 za2 zd (fun _ hk=>⟨hk.1.1,hk.1.2⟩),qB2 HB zf zh⟩
 rw[iN c24] at H
 have zay:=bF c24
 have zaz:=nT c24
 by_cases c35:a0=40
 ·rw[ip c35] at H
  have za3:=bT c35
  have za4:=nF c35
  clear c35
  by_cases c36:0<(l2.length:Int)
  rotate_left
  ·rw[iN c36] at H
   cases H
  rw[ip c36] at H
  have c36b0:=dT c36
  have c36b1:decide (0<l2.length)=true:=decide_eq_true (by omega)
  clear c36
  by_cases c37:1<(l2.length:Int)
  rotate_left
  ·rw[iN c37] at H
   cases H
  rw[ip c37] at H
  have c37b0:=dT c37
  have c37b1:decide (1<l2.length)=true:=decide_eq_true (by omega)
  clear c37
  replace H:=oB H
  obtain⟨⟨zbk,zbl,zbm,t847⟩,zbn,H⟩:=H
  try dsimp only at H
  have A38:=aM zbn
  clear zbn
  replace H:=oi4 H
  obtain⟨rfl,rfl,rfl,rfl⟩:=H
  try go_wp2
  replace zb:=aM (blk_drew zb.out)
  replace zd:=aM (blk_drew zd.out)
  replace HB:=aM (below_drew1 HB.out)
  have ybh:0≤(0:Int):=(by omega)
  have ybi:0<(l2.length:Int):=oD
  obtain⟨y9,yag,yah,ybj,yr,yaa,yab⟩:=at_L1 HR2.out 0 ybh ybi
  have yb:=yr
  (try rw[show ((0:Int)).toNat=0 from rfl] at yb)
  (try rw[show 0*1=0 from rfl] at yb)
  (try rw[Addr.add_zero'] at yb)
  cases ybj
  have qi836:(0<l2.length)=True:=eq_true (by omega)
  (try rw[show ((0:Int)).toNat=0 from rfl] at yr)
  (try rw[Addr.add_zero'] at yr)
  replace yr:=zW HB yr
  have zan:=aM yab
  have yam:=aM yaa
  clear yab yaa
  have ybk:0≤(1:Int):=(by omega)
  have ybl:1<(l2.length:Int):=oD
  obtain⟨ya3,yai,yaj,ybm,ys,yac,yad⟩:=at_L1 HR2.out 1 ybk ybl
  have yc:=ys
  (try rw[show ((1:Int)).toNat=1 from rfl] at yc)
  (try rw[show 1*1=1 from rfl] at yc)
  (try simp only[Nat.reduceMul,Nat.reduceEqDiff,Go.Addr.add,↓reduceIte] at yc)
  obtain rfl:y9=ya3:=(by injection ybm)
  (try simp only[show (1:Int).toNat=1 from rfl,Nat.reduceMul,Nat.reduceEqDiff,Go.Addr.add,↓reduceIte] at ys)
  have qi837:(1<l2.length)=True:=eq_true (by omega)
  (try rw[show ((1:Int)).toNat=1 from rfl] at ys)
  replace ys:=zW HB ys
  have zao:=aM yad
  have yan:=aM yac
  clear yad yac
  refine sT 13 [] (fun w'=>w'.cell? ⟨ze,0,none⟩=some (.int .i64 yg)∧w'.cell? ⟨ze,1,none⟩=some (.int .i64 yh)∧w'.cell? ⟨ze,2,none⟩=some (.int .i64 yi)∧w'.cell? ⟨ze,3,none⟩=some (.int .i64 yj)∧w'.cell? ⟨ze,4,none⟩=some (.int .i64 yk)∧w'.cell? ⟨ze,5,none⟩=some (.int .i64 yl)∧w'.cell? ⟨ze,6,none⟩=some (.int .i64 ym)∧w'.cell? ⟨ze,7,none⟩=some (.int .i64 yn)∧w'.cell? ⟨ze,8,none⟩=some (.bool yo)∧w'.cell? ⟨ze,9,none⟩=some (.slice yt ye.length yu)∧w'.cell? y9=some (.slice yag (rd_L1 l2 0).length yah)∧w'.cell? ⟨y9.block,y9.off+1,none⟩=some (.slice yai (rd_L1 l2 1).length yaj)) fbg.tab15 fbg.bits15 (c10 zb ⟨(zW HB yb),(zW HB yc)⟩) (fun hHeld HT_ HW_=>?_)
  generalize wr.drew=w39 at zb zd HB zan zao yr ys hHeld ⊢
  refine pQ 0 64 13 1 HT_ ?_
  refine pQ 1 65 13 3 HT_ ?_
  refine pQ 3 67 13 11 HT_ ?_
  refine pQ 4 68 13 27 HT_ ?_
  refine pQ 6 70 13 91 HT_ ?_
  refine pU12 2 66 13 95 HT_ HW_ hHeld ?_
  refine pU12 5 69 13 127 HT_ HW_ hHeld ?_
  refine pU12 7 71 13 255 HT_ HW_ hHeld ?_
  refine oN 8 72 13 511 HT_ (fun K hK=>?_)
  refine gS Try.func37 #[.slice yag (rd_L1 l2 0).length yah,.slice yai (rd_L1 l2 1).length yaj,.int .i64 yg] ?_
  with_reducible refine(fbh.calls k3 _ _ (rd_L1 l2 0) _ _ (rd_L1 l2 1) yg zbk zbl zbm t847 _ ?s1 yam.out ?s3 yan.out A38.out).mono ?_
  (case s1=>exact sC zan HB)
  (case s3=>exact sC zao HB)
  rintro e w40 ⟨v839,v842,v845,rfl,ho0,ho1,ho2,hb⟩
  refine⟨_,rfl,?_⟩
  have za5:=aM (Kd.R_lower ho0 (below_size (qB2 HB zf zh)))
  have za6:=aM (Kd.R_lower ho1 (below_size (qB2 HB zf zh)))
  have za7:=aM (Kd.R_lower ho2 (below_size (qB2 HB zf zh)))
  replace zb:=bK zb hb
  replace zd:=bK zd hb
  replace HB:=bS (qB2 HB zf zh) hb
  obtain⟨ybn,ybo,zbo⟩:=Kd.R_slice za5.out
  (first|subst zbo|(injection zbo with f1_ f2_ f3_;have f4_:=f1_.symm;have f5_:=f3_.symm;clear f1_ f2_ f3_;subst f4_;subst f5_))
  obtain⟨ybp,ybq,zbp⟩:=Kd.R_slice za6.out
  (first|subst zbp|(injection zbp with f1_ f2_ f3_;have f4_:=f1_.symm;have f5_:=f3_.symm;clear f1_ f2_ f3_;subst f4_;subst f5_))
  obtain⟨ybr,ybs,zbq⟩:=Kd.R_slice za7.out
  (first|subst zbq|(injection zbq with f1_ f2_ f3_;have f4_:=f1_.symm;have f5_:=f3_.symm;clear f1_ f2_ f3_;subst f4_;subst f5_))
  refine hK.out _ _ (c10 zb ⟨(zW HB yb),(zW HB yc)⟩) (fun hHeld=>?_)
  clear hK K
  refine nM 72 ?_
  refine pQ 9 73 13 1023 HT_ ?_
  refine pQ 10 74 13 2047 HT_ ?_
  refine one_ (i:=11) (N:=none) (bm 13 4095) rfl rfl (one_of HT_.out (by kernel_rfl)) (by decide) (fun K hK=>?_)
  have hs42:w40.cell? ⟨zc,0,none⟩=some (.slice none 0 0):=(blk_cell zd.out 0).trans rfl
  have hfs42:=blk_frozen zd.out 0
  have hns42_0:=za.out
  have hms42_0:=zi.out
  have hs44:w40.cell? ⟨zc,1,none⟩=some (.slice none 0 0):=(blk_cell zd.out 1).trans rfl
  have hfs44:=blk_frozen zd.out 1
  have hns44_0:=za.out
  have hms44_0:=zi.out
  have hs46:w40.cell? ⟨zc,2,none⟩=some (.slice none 0 0):=(blk_cell zd.out 2).trans rfl
  have hfs46:=blk_frozen zd.out 2
  have hns46_0:=za.out
  have hms46_0:=zi.out
  refine skip_ (w1:=?_) (by rfl) rfl ?_ ?_
  rotate_left
  ·go_simp
   rfl
  refine hK.out _ _ ⟨((cell_far (p:=⟨zc,_,none⟩) za.out _).trans (((cell_far (p:=⟨zc,_,none⟩) za.out _).trans (((cell_far (p:=⟨zc,_,none⟩) za.out _).trans (hHeld.1)))))),((cell_far (p:=⟨zc,_,none⟩) za.out _).trans (((cell_far (p:=⟨zc,_,none⟩) za.out _).trans (((cell_far (p:=⟨zc,_,none⟩) za.out _).trans (hHeld.2.1)))))),((cell_far (p:=⟨zc,_,none⟩) za.out _).trans (((cell_far (p:=⟨zc,_,none⟩) za.out _).trans (((cell_far (p:=⟨zc,_,none⟩) za.out _).trans (hHeld.2.2.1)))))),((cell_far (p:=⟨zc,_,none⟩) za.out _).trans (((cell_far (p:=⟨zc,_,none⟩) za.out _).trans (((cell_far (p:=⟨zc,_,none⟩) za.out _).trans (hHeld.2.2.2.1)))))),((cell_far (p:=⟨zc,_,none⟩) za.out _).trans (((cell_far (p:=⟨zc,_,none⟩) za.out _).trans (((cell_far (p:=⟨zc,_,none⟩) za.out _).trans (hHeld.2.2.2.2.1)))))),((cell_far (p:=⟨zc,_,none⟩) za.out _).trans (((cell_far (p:=⟨zc,_,none⟩) za.out _).trans (((cell_far (p:=⟨zc,_,none⟩) za.out _).trans (hHeld.2.2.2.2.2.1)))))),((cell_far (p:=⟨zc,_,none⟩) za.out _).trans (((cell_far (p:=⟨zc,_,none⟩) za.out _).trans (((cell_far (p:=⟨zc,_,none⟩) za.out _).trans (hHeld.2.2.2.2.2.2.1)))))),((cell_far (p:=⟨zc,_,none⟩) za.out _).trans (((cell_far (p:=⟨zc,_,none⟩) za.out _).trans (((cell_far (p:=⟨zc,_,none⟩) za.out _).trans (hHeld.2.2.2.2.2.2.2.1)))))),((cell_far (p:=⟨zc,_,none⟩) za.out _).trans (((cell_far (p:=⟨zc,_,none⟩) za.out _).trans (((cell_far (p:=⟨zc,_,none⟩) za.out _).trans (hHeld.2.2.2.2.2.2.2.2.1)))))),((cell_far (p:=⟨zc,_,none⟩) za.out _).trans (((cell_far (p:=⟨zc,_,none⟩) za.out _).trans (((cell_far (p:=⟨zc,_,none⟩) za.out _).trans (hHeld.2.2.2.2.2.2.2.2.2.1)))))),((cell_far (p:=⟨zc,_,none⟩) (by first|exact Nat.ne_of_lt (Nat.lt_of_lt_of_le (by have:=World.block_lt_of_cell? _ _ yb;first|rwa [add_block] at this|exact this) zg.out)|(rw[add_block];exact Nat.ne_of_lt (Nat.lt_of_lt_of_le (by have:=World.block_lt_of_cell? _ _ yb;first|rwa [add_block] at this|exact this) zg.out))|(show (Addr.add _ _).block≠_;rw[add_block];exact Nat.ne_of_lt (Nat.lt_of_lt_of_le (by have:=World.block_lt_of_cell? _ _ yb;first|rwa [add_block] at this|exact this) zg.out))|(dsimp only;exact Nat.ne_of_lt (Nat.lt_of_lt_of_le (by have:=World.block_lt_of_cell? _ _ yb;first|rwa [add_block] at this|exact this) zg.out))) _).trans (((cell_far (p:=⟨zc,_,none⟩) (by first|exact Nat.ne_of_lt (Nat.lt_of_lt_of_le (by have:=World.block_lt_of_cell? _ _ yb;first|rwa [add_block] at this|exact this) zg.out)|(rw[add_block];exact Nat.ne_of_lt (Nat.lt_of_lt_of_le (by have:=World.block_lt_of_cell? _ _ yb;first|rwa [add_block] at this|exact this) zg.out))|(show (Addr.add _ _).block≠_;rw[add_block];exact Nat.ne_of_lt (Nat.lt_of_lt_of_le (by have:=World.block_lt_of_cell? _ _ yb;first|rwa [add_block] at this|exact this) zg.out))|(dsimp only;exact Nat.ne_of_lt (Nat.lt_of_lt_of_le (by have:=World.block_lt_of_cell? _ _ yb;first|rwa [add_block] at this|exact this) zg.out))) _).trans (((cell_far (p:=⟨zc,_,none⟩) (by first|exact Nat.ne_of_lt (Nat.lt_of_lt_of_le (by have:=World.block_lt_of_cell? _ _ yb;first|rwa [add_block] at this|exact this) zg.out)|(rw[add_block];exact Nat.ne_of_lt (Nat.lt_of_lt_of_le (by have:=World.block_lt_of_cell? _ _ yb;first|rwa [add_block] at this|exact this) zg.out))|(show (Addr.add _ _).block≠_;rw[add_block];exact Nat.ne_of_lt (Nat.lt_of_lt_of_le (by have:=World.block_lt_of_cell? _ _ yb;first|rwa [add_block] at this|exact this) zg.out))|(dsimp only;exact Nat.ne_of_lt (Nat.lt_of_lt_of_le (by have:=World.block_lt_of_cell? _ _ yb;first|rwa [add_block] at this|exact this) zg.out))) _).trans (hHeld.2.2.2.2.2.2.2.2.2.2.1)))))),((cell_far (p:=⟨zc,_,none⟩) (by first|exact Nat.ne_of_lt (Nat.lt_of_lt_of_le (by have:=World.block_lt_of_cell? _ _ yc;first|rwa [add_block] at this|exact this) zg.out)|(rw[add_block];exact Nat.ne_of_lt (Nat.lt_of_lt_of_le (by have:=World.block_lt_of_cell? _ _ yc;first|rwa [add_block] at this|exact this) zg.out))|(show (Addr.add _ _).block≠_;rw[add_block];exact Nat.ne_of_lt (Nat.lt_of_lt_of_le (by have:=World.block_lt_of_cell? _ _ yc;first|rwa [add_block] at this|exact this) zg.out))|(dsimp only;exact Nat.ne_of_lt (Nat.lt_of_lt_of_le (by have:=World.block_lt_of_cell? _ _ yc;first|rwa [add_block] at this|exact this) zg.out))) _).trans (((cell_far (p:=⟨zc,_,none⟩) (by first|exact Nat.ne_of_lt (Nat.lt_of_lt_of_le (by have:=World.block_lt_of_cell? _ _ yc;first|rwa [add_block] at this|exact this) zg.out)|(rw[add_block];exact Nat.ne_of_lt (Nat.lt_of_lt_of_le (by have:=World.block_lt_of_cell? _ _ yc;first|rwa [add_block] at this|exact this) zg.out))|(show (Addr.add _ _).block≠_;rw[add_block];exact Nat.ne_of_lt (Nat.lt_of_lt_of_le (by have:=World.block_lt_of_cell? _ _ yc;first|rwa [add_block] at this|exact this) zg.out))|(dsimp only;exact Nat.ne_of_lt (Nat.lt_of_lt_of_le (by have:=World.block_lt_of_cell? _ _ yc;first|rwa [add_block] at this|exact this) zg.out))) _).trans (((cell_far (p:=⟨zc,_,none⟩) (by first|exact Nat.ne_of_lt (Nat.lt_of_lt_of_le (by have:=World.block_lt_of_cell? _ _ yc;first|rwa [add_block] at this|exact this) zg.out)|(rw[add_block];exact Nat.ne_of_lt (Nat.lt_of_lt_of_le (by have:=World.block_lt_of_cell? _ _ yc;first|rwa [add_block] at this|exact this) zg.out))|(show (Addr.add _ _).block≠_;rw[add_block];exact Nat.ne_of_lt (Nat.lt_of_lt_of_le (by have:=World.block_lt_of_cell? _ _ yc;first|rwa [add_block] at this|exact this) zg.out))|(dsimp only;exact Nat.ne_of_lt (Nat.lt_of_lt_of_le (by have:=World.block_lt_of_cell? _ _ yc;first|rwa [add_block] at this|exact this) zg.out))) _).trans (hHeld.2.2.2.2.2.2.2.2.2.2.2))))))⟩ (fun hHeld=>?_)
  clear hK K
  refine pQ 12 7 13 8191 HT_ ?_
  refine dN HT_ ?_
  try go_wp2
  refine bodyPost_ret (results_ct rfl _ _ zc 32 #[.slice ybn zbk.length ybo,.slice ybp zbl.length ybq,.slice ybr zbm.length ybs] (0,0) _ rfl (by exact P3 zd) Try.underlying32 rfl (by kernel_rfl)) rfl ?_
  exact⟨_,_,_,pE,by(with_reducible repeat(first|apply rA|apply rN|apply rD));exact F3 za5 zd (fun _ hk=>⟨hk.1.1,hk.1.2⟩),by(with_reducible repeat(first|apply rA|apply rN|apply rD));exact F3 za6 zd (fun _ hk=>⟨hk.1.1,hk.1.2⟩),by(with_reducible repeat(first|apply rA|apply rN|apply rD));exact F3 za7 zd (fun _ hk=>⟨hk.1.1,hk.1.2⟩),qB2 HB zf zh⟩
 rw[iN c35] at H
 have za3:=bF c35
 have za4:=nT c35
 by_cases c47:0<(l2.length:Int)
 rotate_left
 ·rw[iN c47] at H
  cases H
 rw[ip c47] at H
 have ya4:=dT c47
 have ya5:decide (0<l2.length)=true:=decide_eq_true (by omega)
 clear c47
 replace H:=oB H
 obtain⟨⟨z2,z0,zaj⟩,zbr,H⟩:=H
 try dsimp only at H
 have A48:=aM zbr
 clear zbr
 by_cases c49:zaj=0
 rotate_left
 ·rw[iN c49] at H
  have za8:=bF c49
  have za9:=nT c49
  replace H:=oi4 H
  obtain⟨rfl,rfl,rfl,rfl⟩:=H
  try go_wp2
  replace zb:=aM (blk_drew zb.out)
  replace zd:=aM (blk_drew zd.out)
  replace HB:=aM (below_drew1 HB.out)
  have yao:0≤(0:Int):=(by omega)
  have yap:0<(l2.length:Int):=oD
  obtain⟨yak,y0,y1,yav,yd,yy,yz⟩:=at_L1 HR2.out 0 yao yap
  have yf:=yd
  (try rw[show ((0:Int)).toNat=0 from rfl] at yf)
  (try rw[show 0*1=0 from rfl] at yf)
  (try rw[Addr.add_zero'] at yf)
  cases yav
  have qi848:(0<l2.length)=True:=eq_true (by omega)
  (try rw[show ((0:Int)).toNat=0 from rfl] at yd)
  (try rw[Addr.add_zero'] at yd)
  replace yd:=zW HB yd
  have z1:=aM yz
  have z9:=aM yy
  clear yz yy
  refine sT 13 [] (fun w'=>w'.cell? ⟨ze,0,none⟩=some (.int .i64 yg)∧w'.cell? ⟨ze,1,none⟩=some (.int .i64 yh)∧w'.cell? ⟨ze,2,none⟩=some (.int .i64 yi)∧w'.cell? ⟨ze,3,none⟩=some (.int .i64 yj)∧w'.cell? ⟨ze,4,none⟩=some (.int .i64 yk)∧w'.cell? ⟨ze,5,none⟩=some (.int .i64 yl)∧w'.cell? ⟨ze,6,none⟩=some (.int .i64 ym)∧w'.cell? ⟨ze,7,none⟩=some (.int .i64 yn)∧w'.cell? ⟨ze,8,none⟩=some (.bool yo)∧w'.cell? ⟨ze,9,none⟩=some (.slice yt ye.length yu)∧w'.cell? yak=some (.slice y0 (rd_L1 l2 0).length y1)) fbg.tab16 fbg.bits16 (c10 zb (zW HB yf)) (fun hHeld HT_ HW_=>?_)
  generalize wr.drew=w72 at zb zd HB z1 yd hHeld ⊢
  refine pQ 0 76 13 1 HT_ ?_
  refine pQ 2 78 13 5 HT_ ?_
  refine pQ 3 79 13 13 HT_ ?_
  refine pU11 1 77 13 15 HT_ HW_ hHeld ?_
  refine pU11 4 80 13 31 HT_ HW_ hHeld ?_
  refine oN 5 81 13 63 HT_ (fun K hK=>?_)
  refine gS Try.func38 #[.int .i64 a0,.agg (aT yg yh yi yj yk yl ym yn yo yt ye.length yu),.slice y0 (rd_L1 l2 0).length y1] ?_
  with_reducible refine(fbj.calls k3 a0 yg yh yi yj yk yl ym yn yo _ _ ye _ _ (rd_L1 l2 0) z2 z0 zaj _ ?s1 zar.out ?s3 z9.out A48.out).mono ?_
  (case s1=>exact sC zaq HB)
  (case s3=>exact sC z1 HB)
  rintro e w73 ⟨v850,v853,rfl,ho0,ho1,hb⟩
  refine⟨_,rfl,?_⟩
  have zab:=aM (Kd.R_lower ho0 (below_size (qB2 HB zf zh)))
  have zac:=aM (Kd.R_lower ho1 (below_size (qB2 HB zf zh)))
  replace zb:=bK zb hb
  replace zd:=bK zd hb
  replace HB:=bS (qB2 HB zf zh) hb
  refine hK.out _ _ (c10 zb (zW HB yf)) (fun hHeld=>?_)
  clear hK K
  refine nM 81 ?_
  refine pQ 6 75 13 127 HT_ ?_
  refine pQ 7 82 13 255 HT_ ?_
  refine pQ 8 83 13 511 HT_ ?_
  refine pQ 9 84 13 1023 HT_ ?_
  refine pQ 10 10 13 2047 HT_ ?_
  refine pQ 11 11 13 4095 HT_ ?_
  refine pQ 12 12 13 8191 HT_ ?_
  refine dN HT_ ?_
  have hnb74:=zi.out
  have hnc74:=za.out
  have hcz75:=blk3 zd.out
  try go_wp2
  refine bodyPost_ret (results_ct rfl _ _ zc 32 #[.slice none 0 0,.slice none 0 0,.slice none 0 0] (0,0) _ rfl (by exact P3 zd) Try.underlying32 rfl (by kernel_rfl)) rfl ?_
  exact⟨_,_,_,pE,pN,pN,pN,qB2 HB zf zh⟩
 rw[ip c49] at H
 have za8:=bT c49
 have za9:=nF c49
 clear c49
 have H':=aM H
 clear H
 try go_wp2
 replace zb:=aM (blk_drew zb.out)
 replace zd:=aM (blk_drew zd.out)
 replace HB:=aM (below_drew1 HB.out)
 have yao:0≤(0:Int):=(by omega)
 have yap:0<(l2.length:Int):=oD
 obtain⟨yak,y0,y1,yav,yd,yy,yz⟩:=at_L1 HR2.out 0 yao yap
 have yf:=yd
 (try rw[show ((0:Int)).toNat=0 from rfl] at yf)
 (try rw[show 0*1=0 from rfl] at yf)
 (try rw[Addr.add_zero'] at yf)
 cases yav
 have qi848:(0<l2.length)=True:=eq_true (by omega)
 (try rw[show ((0:Int)).toNat=0 from rfl] at yd)
 (try rw[Addr.add_zero'] at yd)
 replace yd:=zW HB yd
 have z1:=aM yz
 have z9:=aM yy
 clear yz yy
 refine sT 13 [] (fun w'=>w'.cell? ⟨ze,0,none⟩=some (.int .i64 yg)∧w'.cell? ⟨ze,1,none⟩=some (.int .i64 yh)∧w'.cell? ⟨ze,2,none⟩=some (.int .i64 yi)∧w'.cell? ⟨ze,3,none⟩=some (.int .i64 yj)∧w'.cell? ⟨ze,4,none⟩=some (.int .i64 yk)∧w'.cell? ⟨ze,5,none⟩=some (.int .i64 yl)∧w'.cell? ⟨ze,6,none⟩=some (.int .i64 ym)∧w'.cell? ⟨ze,7,none⟩=some (.int .i64 yn)∧w'.cell? ⟨ze,8,none⟩=some (.bool yo)∧w'.cell? ⟨ze,9,none⟩=some (.slice yt ye.length yu)∧w'.cell? yak=some (.slice y0 (rd_L1 l2 0).length y1)) fbg.tab16 fbg.bits16 (c10 zb (zW HB yf)) (fun hHeld HT_ HW_=>?_)
 generalize wr.drew=w50 at zb zd HB z1 yd hHeld ⊢
 refine pQ 0 76 13 1 HT_ ?_
 refine pQ 2 78 13 5 HT_ ?_
 refine pQ 3 79 13 13 HT_ ?_
 refine pU11 1 77 13 15 HT_ HW_ hHeld ?_
 refine pU11 4 80 13 31 HT_ HW_ hHeld ?_
 refine oN 5 81 13 63 HT_ (fun K hK=>?_)
 refine gS Try.func38 #[.int .i64 a0,.agg (aT yg yh yi yj yk yl ym yn yo yt ye.length yu),.slice y0 (rd_L1 l2 0).length y1] ?_
 with_reducible refine(fbj.calls k3 a0 yg yh yi yj yk yl ym yn yo _ _ ye _ _ (rd_L1 l2 0) z2 z0 zaj _ ?s1 zar.out ?s3 z9.out A48.out).mono ?_
 (case s1=>exact sC zaq HB)
 (case s3=>exact sC z1 HB)
 rintro e w51 ⟨v850,v853,rfl,ho0,ho1,hb⟩
 refine⟨_,rfl,?_⟩
 have zab:=aM (Kd.R_lower ho0 (below_size (qB2 HB zf zh)))
 have zac:=aM (Kd.R_lower ho1 (below_size (qB2 HB zf zh)))
 replace zb:=bK zb hb
 replace zd:=bK zd hb
 replace HB:=bS (qB2 HB zf zh) hb
 refine hK.out _ _ (c10 zb (zW HB yf)) (fun hHeld=>?_)
 clear hK K
 refine nM 81 ?_
 refine pQ 6 75 13 127 HT_ ?_
 refine pQ 7 82 13 255 HT_ ?_
 refine pQ 8 83 13 511 HT_ ?_
 refine pQ 9 84 13 1023 HT_ ?_
 refine pQ 10 10 13 2047 HT_ ?_
 refine pQ 11 11 13 4095 HT_ ?_
 refine pQ 12 12 13 8191 HT_ ?_
 refine dN HT_ ?_
 obtain⟨zad,zae,ybt⟩:=Kd.R_slice zac.out
 subst ybt
 obtain⟨zaf,zag,ybu⟩:=Kd.R_slice zab.out
 subst ybu
 try go_wp2_with (first|((with_reducible refine gD 13 rfl ?_);(try (refine gate_guard (by rfl) ?_;dsimp only));refine bX 13 32 #[.slice none 0 0,.slice none 0 0,.slice none 0 0] ?_;intro zah hg w54 hbox hb;replace zab:=bR zab hb;replace zac:=bR zac hb;have zv:=aM (hbox);have GW856:=gE (w:=w) hg (qB2 HB zf zh);have zai:=GW856;replace HB:=bS (qB2 HB zf zh) hb;have zw:=nL hg zb;have z3:=nG hg zb;replace zb:=bK zb hb;have zx:=nL hg zd;have z4:=nG hg zd;replace zd:=bK zd hb;clear hb hbox hg;have hnb55:=z3.out;have hnc55:=zw.out;have hnb56:=z4.out;have hnc56:=zx.out;have ya6:=blk3 zv.out))
 go_loopg [94] k3 (fun kq v94 w'=>∃ (y2:Int) (zj:List Int) (u857001:Value),v94=.int .i64 y2∧Aside0 (fbg.l1 kq (z0.length:Int) y2 z2 zj z0=some (r1,r2,r3,r4))∧Aside0 (kq≤k3)∧Aside0 (Kd.R (Kd.int .i64) 3 w' w.heap.size (fun k_=>some k_≠(u857001:Value).ownBlock∧some k_≠((.slice zad z0.length zae):Value).ownBlock) (.slice zaf z2.length zag) z2)∧Aside0 (Kd.R (Kd.int .i64) 3 w' w.heap.size (fun k_=>some k_≠((.slice zaf z2.length zag):Value).ownBlock∧some k_≠((.slice zad z0.length zae):Value).ownBlock) u857001 zj)∧Aside0 (Kd.R (Kd.int .i64) 3 w' w.heap.size (fun k_=>some k_≠((.slice zaf z2.length zag):Value).ownBlock∧some k_≠(u857001:Value).ownBlock) (.slice zad z0.length zae) z0)∧Aside0 (w'.heap[ze]?=some (.cells (aT yg yh yi yj yk yl ym yn yo yt ye.length yu) 24 (0,0)))∧Aside0 (w'.heap[zc]?=some (.cells #[(.slice none 0 0),(.slice none 0 0),(.slice none 0 0)] 32 (0,0)))∧Aside0 (w'.heap[zah]?=some (.cells #[(.slice zaf z2.length zag),u857001,(.slice zad z0.length zae)] 32 (0,0)))∧Aside0 (Below w.heap.size w w'))
 case atStart=>exact⟨(0),(([]:List Int)),(.slice none 0 0),(pF),H',⟨Nat.le_refl _⟩,⟨by(with_reducible repeat(first|apply rA|apply rN|apply rD));exact F3 zab zv (fun _ hk=>⟨(by simp[Value.ownBlock]),hk.1⟩)⟩,⟨pN⟩,⟨by(with_reducible repeat(first|apply rA|apply rN|apply rD));exact F3 zac zv (fun _ hk=>⟨hk.1,(by simp[Value.ownBlock])⟩)⟩,⟨by refine B3 zw ?_;exact zb.out⟩,⟨by refine B3 zx ?_;exact zd.out⟩,⟨by exact P3 zv⟩,⟨qB3 HB zf zh zai⟩⟩
 clear H'
 try clear zax
 try clear c24
 try clear zay
 try clear zaz
 try clear c35
 try clear za3
 try clear za4
 try clear ya4
 try clear ya5
 try clear za8
 try clear za9
 try clear ya6
 try clear yd
 try clear yao
 try clear yap
 obtain⟨y2,zj,u857001,rfl,HA,HK4,zy,zk,zz,zb,zd,zv,HB⟩:=hrel
 cases gk with
 | zero=>exact absurd HA.out (by simp[fbg.l1])
 | succ k4=>?_
 have H:=HA.out
 clear HA
 simp only[fbg.l1] at H
 by_cases c58:y2<(z0.length:Int)
 rotate_left
 ·rw[iN c58] at H
  have ya7:=dF c58
  clear c58
  replace H:=oi4 H
  obtain⟨rfl,rfl,rfl,rfl⟩:=H
  have hnb66:=z3.out
  have hnc66:=zw.out
  have hnb67:=z4.out
  have hnc67:=zx.out
  have hcz68:=blk3 zv.out
  have hnb69:=zi.out
  have hnc69:=za.out
  have hcz70:=blk3 zd.out
  obtain⟨ybv,ybw,ybx⟩:=Kd.R_slice zk.out
  subst ybx
  go_wp2
  refine bodyPost_ret (results_ct rfl _ _ zc 32 #[.slice zaf z2.length zag,.slice ybv zj.length ybw,.slice zad z0.length zae] (0,0) _ rfl (by exact P3 zd) Try.underlying32 rfl (by kernel_rfl)) rfl ?_
  exact⟨_,_,_,pE,by(with_reducible repeat(first|apply rA|apply rN|apply rD));exact F3 zy zd (fun _ hk=>⟨hk.1.1,hk.1.2⟩),by(with_reducible repeat(first|apply rA|apply rN|apply rD));exact F3 zk zd (fun _ hk=>⟨hk.1.1,hk.1.2⟩),by(with_reducible repeat(first|apply rA|apply rN|apply rD));exact F3 zz zd (fun _ hk=>⟨hk.1.1,hk.1.2⟩),qB3 HB zf zh zai⟩
 rw[ip c58] at H
 have ya7:=dT c58
 clear c58
 by_cases c59:zj.length<17592186044416
 rotate_left
 ·rw[iN c59] at H
  cases H
 rw[ip c59] at H
 have LMc59:=aM c59
 clear c59
 obtain⟨zap,zat⟩:∃ y_:List Int,y_=(zj++[0]):=⟨_,rfl⟩
 replace H:(fbg.l1 k4 (z0.length:Int) (wrap64 (y2+1)) z2 zap z0)=some (r1,r2,r3,r4):=pH zat H
 have Ny857:=aM zat
 clear zat
 have H':=aM H
 clear H
 have hnb60:=z3.out
 have hnc60:=zw.out
 have hnb61:=z4.out
 have hnc61:=zx.out
 have hcz62:=blk3 zv.out
 go_wp2_with (first|((with_reducible refine gate_builtin (b:=.append) (xs:=#[.tmp 97,.tmp 98]) rfl ?_);(try (refine gate_guard (by rfl) ?_;dsimp only));at_builtin;refine Kd.R_append (Kd.int .i64) (w0:=w) w.heap.size rfl (.tmp 97) (.tmp 98) 22 3 (.int .i64 0) 8 rfl Try.underlying22 info3 rfl (by decide) (by omega) u857001 zj 0 [.int .i64 0] (fun k_=>some k_≠(.slice zaf z2.length zag:Value).ownBlock∧some k_≠(.slice zad z0.length zae:Value).ownBlock) (fun _=>False) rfl rfl ?aP (fun _ hk=>hk.elim) ?aF ?aO ?aB ?aS ?aL ?_;(case aP=>exact rfl);(case aB=>exact(qB3 HB zf zh zai));(case aF=>exact(fun k_ hk=>⟨Kd.fresh' (Kd.R_lt (pR zy.out)) k_ hk,Kd.fresh' (Kd.R_lt (pR zz.out)) k_ hk⟩));(case aO=>exact(pR zk.out));(case aS=>exact(below_size (qB3 HB zf zh zai)));(case aL=>have:=LMc59.out;omega);intro v858 w63 ho hb hg hat;rw[← Ny857.out] at ho;replace zy:=aM (Kd.R_after (ok:=(fun k_=>some k_≠(.slice zad z0.length zae:Value).ownBlock)) (by(with_reducible repeat(first|apply rA|apply rN|apply rD));exact Kd.R_mono zy.out (fun _ hk=>⟨hk.2,hk.1⟩)) hg hat);replace zz:=aM (Kd.R_after (ok:=(fun k_=>some k_≠(.slice zaf z2.length zag:Value).ownBlock)) (pR zz.out) hg hat);replace zb:=aM (blk_grown (g:=ze) (pK zb.out) hg (Kd.R_ne zk.out zb.out (by decide)));replace zd:=aM (blk_grown (g:=zc) (pK zd.out) hg (Kd.R_ne zk.out zd.out (by decide)));replace zv:=aM (blk_grown (g:=zah) (pK zv.out) hg (Kd.R_ne zk.out zv.out (by decide)));replace HB:=aM (hb);have zba:=aM (ho);clear zk;clear ho hb hg hat;obtain⟨zav,zaw,yby⟩:=Kd.R_slice zba.out;subst yby;have hcz65:=blk3 zv.out))
 go_roundg k4
 case measure=>have:=HJ3.out;have:=zau.out;have:=HK3.out;have:=HK4.out;omega
 case rel=>exact⟨(wrap64 (y2+1)),(zap),(.slice zav zap.length zaw),(pF),H',⟨by have:=HJ3.out;have:=zau.out;have:=HK3.out;have:=HK4.out;omega⟩,⟨by(with_reducible repeat(first|apply rA|apply rN|apply rD));exact Kd.R_mono (Kd.R_far (p:=⟨zah,1,none⟩) (Kd.R_types zy.out zv.out (by decide)) (fun _ hk=>hk.2) (.slice zav zap.length zaw)) (fun _ hk=>⟨hk.1.2,hk.1.1⟩)⟩,⟨by(with_reducible repeat(first|apply rA|apply rN|apply rD));exact Kd.R_mono (Kd.R_far (p:=⟨zah,1,none⟩) (Kd.R_types zba.out zv.out (by decide)) (fun _ hk=>hk.2) (.slice zav zap.length zaw)) (fun _ hk=>⟨hk.1.1,hk.1.2⟩)⟩,⟨by(with_reducible repeat(first|apply rA|apply rN|apply rD));exact Kd.R_mono (Kd.R_far (p:=⟨zah,1,none⟩) (Kd.R_types zz.out zv.out (by decide)) (fun _ hk=>hk.2) (.slice zav zap.length zaw)) (fun _ hk=>⟨hk.1.1,hk.1.2⟩)⟩,⟨by(with_reducible repeat(first|apply bN|apply bD|apply bA));refine blk_far ?_ zw.out _;(with_reducible repeat(first|apply bN|apply bD|apply bA));exact zb.out⟩,⟨by(with_reducible repeat(first|apply bN|apply bD|apply bA));refine blk_far ?_ zx.out _;(with_reducible repeat(first|apply bN|apply bD|apply bA));exact zd.out⟩,⟨by(with_reducible repeat(first|apply bN|apply bD|apply bA));refine blk_put (cs:=#[.slice zaf z2.length zag,u857001,.slice zad z0.length zae]) ?_ 1 _ rfl;(with_reducible repeat(first|apply bN|apply bD|apply bA));exact zv.out⟩,⟨qB3 HB zf zh zai⟩⟩
mutual
def fbk.j0:Nat→Int→Bool→Option (Int)
 | 0,_,_=>none
 | k+1,x0,x8=>if x8=true then(some 0)else(if x0 ≥ 17 then(if x0≤23 then(fbk.j1 k x0 true)else(if x0=32 then(fbk.j1 k x0 true)else(fbk.j1 k x0 (x0==40))))else(if x0=32 then(fbk.j1 k x0 true)else(fbk.j1 k x0 (x0==40))))
def fbk.j1:Nat→Int→Bool→Option (Int)
 | 0,_,_=>none
 | k+1,x0,x22=>if x22=true then(some 2)else(if x0 ≥ 24 then(if x0≤26 then(some 3)else(some 1))else(some 1))
end
def fbk.f (k:Nat) (a0:Int):Option (Int):=if a0<1 then(fbk.j0 k a0 true)else(fbk.j0 k a0 (decide (a0 > 40)))
theorem fbk.calls (k:Nat) (a0 r:Int)(w:World)(h:fbk.f k a0=some r) :
  Calls Try.prog 57 #[.int .i64 a0] w fun e w'=>e=.returned (.int .i64 r)∧Drawn0 w w':=by
 have H:(if a0<1 then(fbk.j0 k a0 true)else(fbk.j0 k a0 (decide (a0 > 40))))=some r:=h
 clear h
 have HC2:=aM H
 clear H
 go_enter Try.func57,Try.ntmps57
 go_upto_region 1 with(fail)
 go_cut [8] (fun v8 wc=>∃ (kq:Nat) (yb:Bool),v8=.bool yb∧Aside0 (fbk.j0 kq a0 yb=some r)∧Aside0 (kq≤k)∧Drawn0 w wc)
 case first =>
  have H:=HC2.out
  clear HC2
  by_cases c3:a0<1
  ·rw[ip c3] at H
   have za:=dT c3
   clear c3
   (first|rw[za]|(simp only[i64_w,i32_w];rw[za])|skip)
   have H':=aM H
   clear H
   go_wp2
   go_meet
   case rel=>exact⟨_,(true),(pF),H',⟨pO⟩,pW⟩
  rw[iN c3] at H
  have za:=dF c3
  clear c3
  (first|rw[za]|(simp only[i64_w,i32_w];rw[za])|skip)
  have H':=aM H
  clear H
  go_wp2
  go_meet
  case rel=>exact⟨_,(decide (a0 > 40)),(pF),H',⟨pO⟩,pW⟩
 clear HC2
 obtain⟨kq,yb,rfl,HA,HJ1,⟨mc1,rfl⟩⟩:=hcut
 cases kq with
 | zero=>exact absurd HA.out (by simp[fbk.j0])
 | succ kj1=>?_
 have H:=HA.out
 clear HA
 simp only[fbk.j0] at H
 by_cases c4:yb=true
 ·subst c4
  rw[ip rfl] at H
  obtain rfl:=Option.some.inj H
  go_wp2
  go_ret
  exact⟨pF,pW⟩
 replace c4:=Bool.eq_false_iff.mpr c4
 subst c4
 rw[iN fT] at H
 have HC5:=aM H
 clear H
 go_upto_region 3 with(fail)
 go_cut [22] (fun v22 wc=>∃ (kq:Nat) (ya:Bool),v22=.bool ya∧Aside0 (fbk.j1 kq a0 ya=some r)∧Aside0 (kq≤kj1)∧Drawn0 w wc)
 case first =>
  have H:=HC5.out
  clear HC5
  by_cases c6:a0 ≥ 17
  rotate_left
  ·rw[iN c6] at H
   have zb:decide (17≤a0)=false:=decide_eq_false c6
   clear c6
   (first|rw[zb]|(simp only[i64_w,i32_w];rw[zb])|skip)
   by_cases c9:a0=32
   rotate_left
   ·rw[iN c9] at H
    have ye:=bF c9
    have yf:=nT c9
    have H':=aM H
    clear H
    go_wp2
    go_meet
    case rel=>exact⟨_,((a0==40)),(pF),H',⟨pO1 HJ1⟩,pW⟩
   rw[ip c9] at H
   have ye:=bT c9
   have yf:=nF c9
   clear c9
   have H':=aM H
   clear H
   go_wp2
   go_meet
   case rel=>exact⟨_,(true),(pF),H',⟨pO1 HJ1⟩,pW⟩
  rw[ip c6] at H
  have zb:decide (17≤a0)=true:=decide_eq_true c6
  clear c6
  (first|rw[zb]|(simp only[i64_w,i32_w];rw[zb])|skip)
  by_cases c7:a0≤23
  ·rw[ip c7] at H
   have yg:=dT c7
   clear c7
   have H':=aM H
   clear H
   go_wp2
   go_meet
   case rel=>exact⟨_,(true),(pF),H',⟨pO1 HJ1⟩,pW⟩
  rw[iN c7] at H
  have yg:=dF c7
  clear c7
  by_cases c8:a0=32
  rotate_left
  ·rw[iN c8] at H
   have yh:=bF c8
   have yi:=nT c8
   have H':=aM H
   clear H
   go_wp2
   go_meet
   case rel=>exact⟨_,((a0==40)),(pF),H',⟨pO1 HJ1⟩,pW⟩
  rw[ip c8] at H
  have yh:=bT c8
  have yi:=nF c8
  clear c8
  have H':=aM H
  clear H
  go_wp2
  go_meet
  case rel=>exact⟨_,(true),(pF),H',⟨pO1 HJ1⟩,pW⟩
 clear HC5
 try clear c4
 obtain⟨kq,ya,rfl,HA,HJ4,⟨mc4,rfl⟩⟩:=hcut
 cases kq with
 | zero=>exact absurd HA.out (by simp[fbk.j1])
 | succ kj4=>?_
 have H:=HA.out
 clear HA
 simp only[fbk.j1] at H
 by_cases c10:ya=true
 ·subst c10
  rw[ip rfl] at H
  obtain rfl:=Option.some.inj H
  go_wp2
  go_ret
  exact⟨pF,pW⟩
 replace c10:=Bool.eq_false_iff.mpr c10
 subst c10
 rw[iN fT] at H
 by_cases c11:a0 ≥ 24
 rotate_left
 ·rw[iN c11] at H
  have yc:decide (24≤a0)=false:=decide_eq_false c11
  clear c11
  obtain rfl:=Option.some.inj H
  go_wp2
  go_ret
  exact⟨pF,pW⟩
 rw[ip c11] at H
 have yc:decide (24≤a0)=true:=decide_eq_true c11
 clear c11
 by_cases c12:a0≤26
 ·rw[ip c12] at H
  have yd:=dT c12
  clear c12
  obtain rfl:=Option.some.inj H
  go_wp2
  go_ret
  exact⟨pF,pW⟩
 rw[iN c12] at H
 have yd:=dF c12
 clear c12
 obtain rfl:=Option.some.inj H
 go_wp2
 go_ret
 exact⟨pF,pW⟩
def fbo.l0:Nat→Int→List (List Int)→Int→Int→Int→Int→Int→Int→Int→Int→Int→Int→Bool→List Int→Option (List Int×Int)
 | 0,_,_,_,_,_,_,_,_,_,_,_,_,_,_=>none
 | k+1,x0,x2,x21,x22,zo,zp,zq,zr,zs,zt,zu,zv,zw,zx=>if x22<x21 then(if 0≤x22 then(if x22<(x2.length:Int)then((fag.f k (rd_L1 x2 x22)).bind fun zk=>(if zk=0 then(fbo.l0 k x0 x2 x21 (wrap64 (x22+1)) zo zp zq zr zs zt zu zv zw zx)else(some (([]:List Int),zk))))else(none))else(none))else((fbm.f k x0 zo zp zq zr zs zt zu zv zw zx).bind fun zaa=>(if zaa=true then((fbl.f k x0).bind fun zd=>(if zd=1 then((fap.f k x2).bind fun bt1082=>(some (bt1082.1,bt1082.2)))else((fbl.f k x0).bind fun zf=>(if zf=2 then(if 0<(x2.length:Int)then((fbd.f k x0 zo zp zq zr zs zt zu zv zw zx (rd_L1 x2 0)).bind fun bt1088=>(some (bt1088.1,bt1088.2)))else(none))else((fbl.f k x0).bind fun zl=>(if zl=3 then(if 0<(x2.length:Int)then(if 1<(x2.length:Int)then((fbf.f k (rd_L1 x2 0) (rd_L1 x2 1)).bind fun bt1095=>(some (bt1095.1,bt1095.2)))else(none))else(none))else((fbg.f k x0 zo zp zq zr zs zt zu zv zw zx x2).bind fun bt1099=>(if bt1099.2.2.2=0 then(some (bt1099.1,0))else(some (([]:List Int),bt1099.2.2.2))))))))))else(some (([]:List Int),1))))
def fbo.f (k:Nat) (a0 yb yc yd ye yf yg yh yi:Int)(yj:Bool)(ya:List Int)(l2:List (List Int)):Option (List Int×Int):=(fbl.f k a0).bind fun ze=>(if ze=0 then(some (([]:List Int),14))else((fbk.f k a0).bind fun zg=>(if(l2.length:Int)=zg then(fbo.l0 k a0 l2 (l2.length:Int) 0 yb yc yd ye yf yg yh yi yj ya)else(some (([]:List Int),1)))))
def fbo.T17:TT:=(true,[([],[]),([],[]),([],[]),([2],[2]),([3],[3]),([0,1,4],[0,1,4]),([5],[5]),([5],[5]),([6,5,0,1,2,3,4,5,6,7],[6]),([7,8,0,1,2,3,4,5,6,7,8],[7])])
def fbo.B17:List Nat:=[0,0,0,4,12,31,63,63,255,511]
theorem fbo.tab17:rtab .any (opsOf Try.f25 17)=fbo.T17:=by kernel_rfl
theorem fbo.bits17:waitsOk fbo.T17.2 fbo.B17=true:=by kernel_rfl
def fbo.T19:TT:=(true,[([],[]),([0],[0]),([1],[1]),([],[]),([3],[3]),([4],[4]),([2,5],[2,5]),([6],[6]),([6],[6]),([7,6,0,1,2,3,4,5,6,7,8],[7]),([8,9,0,1,2,3,4,5,6,7,8,9],[8])])
def fbo.B19:List Nat:=[0,1,3,0,8,24,63,127,127,511,1023]
theorem fbo.tab19:rtab .any (opsOf Try.f25 19)=fbo.T19:=by kernel_rfl
theorem fbo.bits19:waitsOk fbo.T19.2 fbo.B19=true:=by kernel_rfl
theorem fbo.calls (k:Nat) (a0 yb yc yd ye yf yg yh yi:Int)(yj:Bool)(yl:Option Addr)(ym:Nat)(ya:List Int)(A2:Option Addr)(c2:Nat)(l2:List (List Int))(r1:List Int)(r2:Int)(w:World)(yah:Kd.C (Kd.int .i64) w yl ya.length ya)(yai:ya.length≤ym)(hr2:Kd.C (Kd.slice 3 (Kd.int .i64)) w A2 l2.length l2)(hc2:l2.length≤c2)(h:fbo.f k a0 yb yc yd ye yf yg yh yi yj ya l2=some (r1,r2)) :
  Calls Try.prog 25 #[.int .i64 a0,.agg #[.int .i64 yb,.int .i64 yc,.int .i64 yd,.int .i64 ye,.int .i64 yf,.int .i64 yg,.int .i64 yh,.int .i64 yi,.bool yj,.slice yl ya.length ym],.slice A2 l2.length c2] w fun e w'=>∃ v0_:Value,e=.returned (.tuple #[v0_,.int .i64 r2])∧Kd.R (Kd.int .i64) 3 w' w.heap.size (fun _=>True) v0_ r1∧Below w.heap.size w w':=by
 have hu24:=Try.underlying24
 have hu32:=Try.underlying32
 have zy:=aM yah
 have zz:=aM yai
 clear yah yai
 have HR2:=aM hr2
 have HC2:=aM hc2
 clear hr2 hc2
 have HB:=aM (Below.refl w.heap.size w)
 have H:((fbl.f k a0).bind fun ze=>(if ze=0 then(some (([]:List Int),14))else((fbk.f k a0).bind fun zg=>(if(l2.length:Int)=zg then(fbo.l0 k a0 l2 (l2.length:Int) 0 yb yc yd ye yf yg yh yi yj ya)else(some (([]:List Int),1))))))=some (r1,r2):=h
 clear h
 replace H:=oB H
 obtain⟨ze,A40,H⟩:=H
 try dsimp only at H
 have A4:=aM A40
 clear A40
 by_cases c5:ze=0
 ·rw[ip c5] at H
  have zae:=bT c5
  have zaf:=nF c5
  clear c5
  replace H:=oi2 H
  obtain⟨rfl,rfl⟩:=H
  go_enter Try.func25,Try.ntmps25
  go_wp2_with (first|((with_reducible refine gD 4 rfl ?_);refine bX 4 24 (aT yb yc yd ye yf yg yh yi yj yl ya.length ym) ?_;intro zc hg w6 hbox hb;have za:=aM (hbox);have z0:=gE (w:=w) hg (qB HB);have zb:=z0;replace HB:=bS (qB HB) hb;clear hb hbox hg)|((with_reducible refine gC 56 rfl ?_);refine gL 13 Try.func56 #[.int .i64 a0] ?_;(with_reducible refine(fbl.calls k a0 ze _ A4.out).mono ?_);rintro e w' ⟨rfl,⟨nd,rfl⟩⟩;refine⟨_,rfl,?_⟩))
  go_ret2
  exact⟨_,pE,pN,qB1 HB zb⟩
 rw[iN c5] at H
 have zae:=bF c5
 have zaf:=nT c5
 replace H:=oB H
 obtain⟨zg,A70,H⟩:=H
 try dsimp only at H
 have A7:=aM A70
 clear A70
 by_cases c8:(l2.length:Int)=zg
 rotate_left
 ·rw[iN c8] at H
  have zag:=bF c8
  have zah:=nT c8
  replace H:=oi2 H
  obtain⟨rfl,rfl⟩:=H
  go_enter Try.func25,Try.ntmps25
  go_wp2_with (first|((with_reducible refine gD 4 rfl ?_);refine bX 4 24 (aT yb yc yd ye yf yg yh yi yj yl ya.length ym) ?_;intro zc hg w64 hbox hb;have za:=aM (hbox);have z0:=gE (w:=w) hg (qB HB);have zb:=z0;replace HB:=bS (qB HB) hb;clear hb hbox hg)|((with_reducible refine gC 56 rfl ?_);refine gL 13 Try.func56 #[.int .i64 a0] ?_;(with_reducible refine(fbl.calls k a0 ze _ A4.out).mono ?_);rintro e w' ⟨rfl,⟨nd,rfl⟩⟩;refine⟨_,rfl,?_⟩)|((with_reducible refine gC 57 rfl ?_);refine gL 18 Try.func57 #[.int .i64 a0] ?_;(with_reducible refine(fbk.calls k a0 zg _ A7.out).mono ?_);rintro e w' ⟨rfl,⟨nd,rfl⟩⟩;refine⟨_,rfl,?_⟩))
  go_ret2
  exact⟨_,pE,pN,qB1 HB zb⟩
 rw[ip c8] at H
 have zag:=bT c8
 have zah:=nF c8
 clear c8
 have H':=aM H
 clear H
 go_enter Try.func25,Try.ntmps25
 go_wp2_with (first|((with_reducible refine gD 4 rfl ?_);refine bX 4 24 (aT yb yc yd ye yf yg yh yi yj yl ya.length ym) ?_;intro zc hg w9 hbox hb;have za:=aM (hbox);have z0:=gE (w:=w) hg (qB HB);have zb:=z0;replace HB:=bS (qB HB) hb;clear hb hbox hg)|((with_reducible refine gC 56 rfl ?_);refine gL 13 Try.func56 #[.int .i64 a0] ?_;(with_reducible refine(fbl.calls k a0 ze _ A4.out).mono ?_);rintro e w' ⟨rfl,⟨nd,rfl⟩⟩;refine⟨_,rfl,?_⟩)|((with_reducible refine gC 57 rfl ?_);refine gL 18 Try.func57 #[.int .i64 a0] ?_;(with_reducible refine(fbk.calls k a0 zg _ A7.out).mono ?_);rintro e w' ⟨rfl,⟨nd,rfl⟩⟩;refine⟨_,rfl,?_⟩))
 go_loopg [22] k (fun kq v22 w'=>∃ (yk:Int),v22=.int .i64 yk∧Aside0 (fbo.l0 kq a0 l2 (l2.length:Int) yk yb yc yd ye yf yg yh yi yj ya=some (r1,r2))∧Aside0 (kq≤k)∧Aside0 (w'.heap[zc]?=some (.cells (aT yb yc yd ye yf yg yh yi yj yl ya.length ym) 24 (0,0)))∧Aside0 (Below w.heap.size w w'))
 case atStart=>exact⟨(0),(pF),H',⟨Nat.le_refl _⟩,⟨pK za.out⟩,⟨qB1 HB zb⟩⟩
 clear H'
 try clear c2
 try clear c5
 try clear zae
 try clear zaf
 try clear zag
 try clear zah
 obtain⟨yk,rfl,HA,HK1,za,HB⟩:=hrel
 cases gk with
 | zero=>exact absurd HA.out (by simp[fbo.l0])
 | succ k1=>?_
 have H:=HA.out
 clear HA
 simp only[fbo.l0] at H
 by_cases c10:yk<(l2.length:Int)
 ·rw[ip c10] at H
  have yan:=dT c10
  clear c10
  by_cases c11:0≤yk
  rotate_left
  ·rw[iN c11] at H
   cases H
  rw[ip c11] at H
  have c11b0:=dT c11
  clear c11
  by_cases c12:yk<(l2.length:Int)
  rotate_left
  ·rw[iN c12] at H
   cases H
  rw[ip c12] at H
  have c12b0:=dT c12
  clear c12
  replace H:=oB H
  obtain⟨zk,zai,H⟩:=H
  try dsimp only at H
  have A13:=aM zai
  clear zai
  by_cases c14:zk=0
  rotate_left
  ·rw[iN c14] at H
   have yao:=bF c14
   have yap:=nT c14
   replace H:=oi2 H
   obtain⟨rfl,rfl⟩:=H
   have yab:0≤(yk:Int):=oD
   have yac:yk<(l2.length:Int):=oD
   obtain⟨yaj,yw,yx,yad,yq,yr,ys⟩:=at_L1 HR2.out yk yab yac
   cases yad
   replace yq:=zW HB yq
   have z1:=aM ys
   have z2:=aM yr
   clear ys yr
   go_wp2_with (first|((with_reducible refine gC 30 rfl ?_);refine gL 29 Try.func30 #[.slice yw (rd_L1 l2 yk).length yx] ?_;(with_reducible refine(fag.calls k1 _ _ (rd_L1 l2 yk) zk _ ?s1 z2.out A13.out).mono ?_);(case s1=>exact sC z1 HB);rintro e w' ⟨rfl,⟨nd,rfl⟩⟩;refine⟨_,rfl,?_⟩))
   go_ret2
   exact⟨_,pE,pN,qB1 HB zb⟩
  rw[ip c14] at H
  have yao:=bT c14
  have yap:=nF c14
  clear c14
  have H':=aM H
  clear H
  have yab:0≤(yk:Int):=oD
  have yac:yk<(l2.length:Int):=oD
  obtain⟨yaj,yw,yx,yad,yq,yr,ys⟩:=at_L1 HR2.out yk yab yac
  cases yad
  replace yq:=zW HB yq
  have z1:=aM ys
  have z2:=aM yr
  clear ys yr
  go_wp2_with (first|((with_reducible refine gC 30 rfl ?_);refine gL 29 Try.func30 #[.slice yw (rd_L1 l2 yk).length yx] ?_;(with_reducible refine(fag.calls k1 _ _ (rd_L1 l2 yk) zk _ ?s1 z2.out A13.out).mono ?_);(case s1=>exact sC z1 HB);rintro e w' ⟨rfl,⟨nd,rfl⟩⟩;refine⟨_,rfl,?_⟩))
  go_roundg k1
  case measure=>have:=HK1.out;omega
  case rel=>exact⟨(wrap64 (yk+1)),(pF),H',⟨pO1 HK1⟩,⟨pK za.out⟩,⟨qB1 HB zb⟩⟩
 rw[iN c10] at H
 have yan:=dF c10
 clear c10
 replace H:=oB H
 obtain⟨zaa,zaj,H⟩:=H
 try dsimp only at H
 have A15:=aM zaj
 clear zaj
 by_cases c16:zaa=true
 rotate_left
 ·replace c16:=Bool.eq_false_iff.mpr c16
  subst c16
  rw[iN fT] at H
  replace H:=oi2 H
  obtain⟨rfl,rfl⟩:=H
  have hcz62:=blk10 za.out
  go_wp2_with (first|((with_reducible refine gC 27 rfl ?_);refine gL 36 Try.func27 #[.int .i64 a0,.agg (aT yb yc yd ye yf yg yh yi yj yl ya.length ym)] ?_;(with_reducible refine(fbm.calls k1 a0 yb yc yd ye yf yg yh yi yj _ _ ya false _ ?s1 zz.out A15.out).mono ?_);(case s1=>exact sC zy HB);rintro e w63 ⟨rfl,hb⟩;refine⟨_,rfl,?_⟩;replace za:=bK za hb;replace HB:=bS (qB1 HB zb) hb))
  go_ret2
  exact⟨_,pE,pN,qB1 HB zb⟩
 subst c16
 rw[ip rfl] at H
 replace H:=oB H
 obtain⟨zd,zak,H⟩:=H
 try dsimp only at H
 have A17:=aM zak
 clear zak
 by_cases c18:zd=1
 ·rw[ip c18] at H
  have yaq:=bT c18
  have yar:=nF c18
  clear c18
  replace H:=oB H
  obtain⟨⟨t1082,t1083⟩,zal,H⟩:=H
  try dsimp only at H
  have A19:=aM zal
  clear zal
  replace H:=oi2 H
  obtain⟨rfl,rfl⟩:=H
  have hcz20:=blk10 za.out
  go_wp2_with (first|((with_reducible refine gC 27 rfl ?_);refine gL 36 Try.func27 #[.int .i64 a0,.agg (aT yb yc yd ye yf yg yh yi yj yl ya.length ym)] ?_;(with_reducible refine(fbm.calls k1 a0 yb yc yd ye yf yg yh yi yj _ _ ya true _ ?s1 zz.out A15.out).mono ?_);(case s1=>exact sC zy HB);rintro e w21 ⟨rfl,hb⟩;refine⟨_,rfl,?_⟩;replace za:=bK za hb;replace HB:=bS (qB1 HB zb) hb)|((with_reducible refine gC 56 rfl ?_);refine gL 39 Try.func56 #[.int .i64 a0] ?_;(with_reducible refine(fbl.calls k1 a0 zd _ A17.out).mono ?_);rintro e w' ⟨rfl,⟨nd,rfl⟩⟩;refine⟨_,rfl,?_⟩)|((with_reducible refine gC 58 rfl ?_);refine gL 42 Try.func58 #[.slice A2 l2.length c2] ?_;(with_reducible refine(fap.calls k1 _ _ l2 t1082 t1083 _ ?s1 HC2.out A19.out).mono ?_);(case s1=>exact pC (Kd.C_below HR2.out (qB1 HB zb)));rintro e w22 ⟨v1084,rfl,ho0,hb⟩;refine⟨_,rfl,?_⟩;have HO1085:=aM (Kd.R_lower ho0 (below_size (qB1 HB zb)));replace za:=bK za hb;replace HB:=bS (qB1 HB zb) hb))
  go_ret2
  exact⟨_,pE,pR HO1085.out,qB1 HB zb⟩
 rw[iN c18] at H
 have yaq:=bF c18
 have yar:=nT c18
 replace H:=oB H
 obtain⟨zf,zam,H⟩:=H
 try dsimp only at H
 have A23:=aM zam
 clear zam
 by_cases c24:zf=2
 ·rw[ip c24] at H
  have yas:=bT c24
  have yat:=nF c24
  clear c24
  by_cases c25:0<(l2.length:Int)
  rotate_left
  ·rw[iN c25] at H
   cases H
  rw[ip c25] at H
  have c25b0:=dT c25
  have c25b1:decide (0<l2.length)=true:=decide_eq_true (by omega)
  clear c25
  replace H:=oB H
  obtain⟨⟨t1088,t1091⟩,zan,H⟩:=H
  try dsimp only at H
  have A26:=aM zan
  clear zan
  replace H:=oi2 H
  obtain⟨rfl,rfl⟩:=H
  have hcz27:=blk10 za.out
  try go_wp2_with (first|((with_reducible refine gC 27 rfl ?_);refine gL 36 Try.func27 #[.int .i64 a0,.agg (aT yb yc yd ye yf yg yh yi yj yl ya.length ym)] ?_;(with_reducible refine(fbm.calls k1 a0 yb yc yd ye yf yg yh yi yj _ _ ya true _ ?s1 zz.out A15.out).mono ?_);(case s1=>exact sC zy HB);rintro e w28 ⟨rfl,hb⟩;refine⟨_,rfl,?_⟩;replace za:=bK za hb;replace HB:=bS (qB1 HB zb) hb)|((with_reducible refine gC 56 rfl ?_);refine gL 39 Try.func56 #[.int .i64 a0] ?_;(with_reducible refine(fbl.calls k1 a0 zd _ A17.out).mono ?_);rintro e w' ⟨rfl,⟨nd,rfl⟩⟩;refine⟨_,rfl,?_⟩)|((with_reducible refine gC 56 rfl ?_);refine gL 46 Try.func56 #[.int .i64 a0] ?_;(with_reducible refine(fbl.calls k1 a0 zf _ A23.out).mono ?_);rintro e w' ⟨rfl,⟨nd,rfl⟩⟩;refine⟨_,rfl,?_⟩))
  (try (rw[drewN_self w28];generalize hq_:World.drewN w28 _=w28;have n0_:Aside0 (w28.heap[zc]?=some (.cells (aT yb yc yd ye yf yg yh yi yj yl ya.length ym) 24 (0,0))):=⟨by rw[← hq_];exact(pK za.out)⟩;have n1_:Aside0 (Below w.heap.size w w28):=⟨by rw[← hq_];exact(qB1 HB zb)⟩;clear za HB hq_;have za:=n0_;have HB:=n1_;clear n0_ n1_))
  replace za:=aM (blk_drew za.out)
  replace HB:=aM (below_drew1 HB.out)
  have yau:0≤(0:Int):=(by omega)
  have yav:0<(l2.length:Int):=oD
  obtain⟨yak,y5,y6,yaw,yn,yz,y0⟩:=at_L1 HR2.out 0 yau yav
  have yt:=yn
  (try rw[show ((0:Int)).toNat=0 from rfl] at yt)
  (try rw[show 0*1=0 from rfl] at yt)
  (try rw[Addr.add_zero'] at yt)
  cases yaw
  have qi1087:(0<l2.length)=True:=eq_true (by omega)
  (try rw[show ((0:Int)).toNat=0 from rfl] at yn)
  (try rw[Addr.add_zero'] at yn)
  replace yn:=zW HB yn
  have z5:=aM y0
  have yae:=aM yz
  clear y0 yz
  refine sT 10 [] (fun w'=>w'.cell? ⟨zc,0,none⟩=some (.int .i64 yb)∧w'.cell? ⟨zc,1,none⟩=some (.int .i64 yc)∧w'.cell? ⟨zc,2,none⟩=some (.int .i64 yd)∧w'.cell? ⟨zc,3,none⟩=some (.int .i64 ye)∧w'.cell? ⟨zc,4,none⟩=some (.int .i64 yf)∧w'.cell? ⟨zc,5,none⟩=some (.int .i64 yg)∧w'.cell? ⟨zc,6,none⟩=some (.int .i64 yh)∧w'.cell? ⟨zc,7,none⟩=some (.int .i64 yi)∧w'.cell? ⟨zc,8,none⟩=some (.bool yj)∧w'.cell? ⟨zc,9,none⟩=some (.slice yl ya.length ym)∧w'.cell? yak=some (.slice y5 (rd_L1 l2 0).length y6)) fbo.tab17 fbo.bits17 (c10 za (zW HB yt)) (fun hHeld HT_ HW_=>?_)
  generalize w28.drew=w29 at za HB z5 yn hHeld ⊢
  refine pQ 0 48 10 1 HT_ ?_
  refine pQ 2 50 10 5 HT_ ?_
  refine pQ 3 51 10 13 HT_ ?_
  refine pU11 1 49 10 15 HT_ HW_ hHeld ?_
  refine pU11 4 52 10 31 HT_ HW_ hHeld ?_
  refine oN 5 53 10 63 HT_ (fun K hK=>?_)
  refine gS Try.func59 #[.int .i64 a0,.agg (aT yb yc yd ye yf yg yh yi yj yl ya.length ym),.slice y5 (rd_L1 l2 0).length y6] ?_
  with_reducible refine(fbd.calls k1 a0 yb yc yd ye yf yg yh yi yj _ _ ya _ _ (rd_L1 l2 0) t1088 t1091 _ ?s1 zz.out ?s3 yae.out A26.out).mono ?_
  (case s1=>exact sC zy HB)
  (case s3=>exact sC z5 HB)
  rintro e w30 ⟨v1089,rfl,ho0,hb⟩
  refine⟨_,rfl,?_⟩
  have HO1090:=aM (Kd.R_lower ho0 (below_size (qB1 HB zb)))
  replace za:=bK za hb
  replace HB:=bS (qB1 HB zb) hb
  refine hK.out _ _ (c10 za (zW HB yt)) (fun hHeld=>?_)
  clear hK K
  refine nM 53 ?_
  refine pQ 6 54 10 127 HT_ ?_
  refine pQ 7 55 10 255 HT_ ?_
  refine pQ 8 6 10 511 HT_ ?_
  refine pQ 9 7 10 1023 HT_ ?_
  refine dN HT_ ?_
  try go_wp2
  go_ret2
  exact⟨_,pE,pR HO1090.out,qB1 HB zb⟩
 rw[iN c24] at H
 have yas:=bF c24
 have yat:=nT c24
 replace H:=oB H
 obtain⟨zl,zao,H⟩:=H
 try dsimp only at H
 have A31:=aM zao
 clear zao
 by_cases c32:zl=3
 rotate_left
 ·rw[iN c32] at H
  have yax:=bF c32
  have yay:=nT c32
  replace H:=oB H
  obtain⟨⟨zab,zac,zad,z3⟩,zap,H⟩:=H
  try dsimp only at H
  have A40:=aM zap
  clear zap
  by_cases c41:z3=0
  rotate_left
  ·rw[iN c41] at H
   have yaz:=bF c41
   have ya0:=nT c41
   replace H:=oi2 H
   obtain⟨rfl,rfl⟩:=H
   have hcz52:=blk10 za.out
   go_wp2_with (first|((with_reducible refine gC 27 rfl ?_);refine gL 36 Try.func27 #[.int .i64 a0,.agg (aT yb yc yd ye yf yg yh yi yj yl ya.length ym)] ?_;(with_reducible refine(fbm.calls k1 a0 yb yc yd ye yf yg yh yi yj _ _ ya true _ ?s1 zz.out A15.out).mono ?_);(case s1=>exact sC zy HB);rintro e w53 ⟨rfl,hb⟩;refine⟨_,rfl,?_⟩;replace za:=bK za hb;replace HB:=bS (qB1 HB zb) hb)|((with_reducible refine gC 56 rfl ?_);refine gL 39 Try.func56 #[.int .i64 a0] ?_;(with_reducible refine(fbl.calls k1 a0 zd _ A17.out).mono ?_);rintro e w' ⟨rfl,⟨nd,rfl⟩⟩;refine⟨_,rfl,?_⟩;(try (rw[drewN_self w53];generalize hq_:World.drewN w53 _=w53;have n0_:Aside0 (w53.heap[zc]?=some (.cells (aT yb yc yd ye yf yg yh yi yj yl ya.length ym) 24 (0,0))):=⟨by rw[← hq_];exact(pK za.out)⟩;have n1_:Aside0 (Below w.heap.size w w53):=⟨by rw[← hq_];exact(qB1 HB zb)⟩;clear za HB hq_;have za:=n0_;have HB:=n1_;clear n0_ n1_)))|((with_reducible refine gC 56 rfl ?_);refine gL 46 Try.func56 #[.int .i64 a0] ?_;(with_reducible refine(fbl.calls k1 a0 zf _ A23.out).mono ?_);rintro e w' ⟨rfl,⟨nd,rfl⟩⟩;refine⟨_,rfl,?_⟩;(try (rw[drewN_self w53];generalize hq_:World.drewN w53 _=w53;have n0_:Aside0 (w53.heap[zc]?=some (.cells (aT yb yc yd ye yf yg yh yi yj yl ya.length ym) 24 (0,0))):=⟨by rw[← hq_];exact(pK za.out)⟩;have n1_:Aside0 (Below w.heap.size w w53):=⟨by rw[← hq_];exact(qB1 HB zb)⟩;clear za HB hq_;have za:=n0_;have HB:=n1_;clear n0_ n1_)))|((with_reducible refine gC 56 rfl ?_);refine gL 57 Try.func56 #[.int .i64 a0] ?_;(with_reducible refine(fbl.calls k1 a0 zl _ A31.out).mono ?_);rintro e w' ⟨rfl,⟨nd,rfl⟩⟩;refine⟨_,rfl,?_⟩;(try (rw[drewN_self w53];generalize hq_:World.drewN w53 _=w53;have n0_:Aside0 (w53.heap[zc]?=some (.cells (aT yb yc yd ye yf yg yh yi yj yl ya.length ym) 24 (0,0))):=⟨by rw[← hq_];exact(pK za.out)⟩;have n1_:Aside0 (Below w.heap.size w w53):=⟨by rw[← hq_];exact(qB1 HB zb)⟩;clear za HB hq_;have za:=n0_;have HB:=n1_;clear n0_ n1_));have hcz54:=blk10 za.out)|((with_reducible refine gC 11 rfl ?_);refine gL 72 Try.func11 #[.int .i64 a0,.agg (aT yb yc yd ye yf yg yh yi yj yl ya.length ym),.slice A2 l2.length c2] ?_;(with_reducible refine(fbg.calls k1 a0 yb yc yd ye yf yg yh yi yj _ _ ya _ _ l2 zab zac zad z3 _ ?s1 zz.out ?s3 HC2.out A40.out).mono ?_);(case s1=>exact sC zy HB);(case s3=>exact sC HR2 HB);rintro e w55 ⟨v1100,v1103,v1106,rfl,ho0,ho1,ho2,hb⟩;refine⟨_,rfl,?_⟩;have zh:=aM (Kd.R_lower ho0 (below_size (qB1 HB zb)));have zm:=aM (Kd.R_lower ho1 (below_size (qB1 HB zb)));have zn:=aM (Kd.R_lower ho2 (below_size (qB1 HB zb)));replace za:=bK za hb;replace HB:=bS (qB1 HB zb) hb)|((with_reducible refine gD 10 rfl ?_);refine bX 10 32 #[.slice none 0 0,.slice none 0 0,.slice none 0 0] ?_;intro yal hg w56 hbox hb;replace zh:=bR zh hb;replace zm:=bR zm hb;replace zn:=bR zn hb;have z4:=aM (hbox);have z8:=gE (w:=w) hg (qB1 HB zb);have z9:=z8;replace HB:=bS (qB1 HB zb) hb;have zi:=nL hg za;have zj:=nG hg za;replace za:=bK za hb;clear hb hbox hg;obtain⟨Ao57,co57,ya7⟩:=Kd.R_slice zh.out;subst ya7;have hnb58:=zj.out;have hnc58:=zi.out;have hcz59:=blk3 z4.out;obtain⟨Ao60,co60,ya8⟩:=Kd.R_slice zm.out;subst ya8;obtain⟨Ao61,co61,ya9⟩:=Kd.R_slice zn.out;subst ya9))
   go_ret2
   exact⟨_,pE,pN,qB2 HB zb z9⟩
  rw[ip c41] at H
  have yaz:=bT c41
  have ya0:=nF c41
  clear c41
  replace H:=oi2 H
  obtain⟨rfl,rfl⟩:=H
  have hcz42:=blk10 za.out
  go_wp2_with (first|((with_reducible refine gC 27 rfl ?_);refine gL 36 Try.func27 #[.int .i64 a0,.agg (aT yb yc yd ye yf yg yh yi yj yl ya.length ym)] ?_;(with_reducible refine(fbm.calls k1 a0 yb yc yd ye yf yg yh yi yj _ _ ya true _ ?s1 zz.out A15.out).mono ?_);(case s1=>exact sC zy HB);rintro e w43 ⟨rfl,hb⟩;refine⟨_,rfl,?_⟩;replace za:=bK za hb;replace HB:=bS (qB1 HB zb) hb)|((with_reducible refine gC 56 rfl ?_);refine gL 39 Try.func56 #[.int .i64 a0] ?_;(with_reducible refine(fbl.calls k1 a0 zd _ A17.out).mono ?_);rintro e w' ⟨rfl,⟨nd,rfl⟩⟩;refine⟨_,rfl,?_⟩;(try (rw[drewN_self w43];generalize hq_:World.drewN w43 _=w43;have n0_:Aside0 (w43.heap[zc]?=some (.cells (aT yb yc yd ye yf yg yh yi yj yl ya.length ym) 24 (0,0))):=⟨by rw[← hq_];exact(pK za.out)⟩;have n1_:Aside0 (Below w.heap.size w w43):=⟨by rw[← hq_];exact(qB1 HB zb)⟩;clear za HB hq_;have za:=n0_;have HB:=n1_;clear n0_ n1_)))|((with_reducible refine gC 56 rfl ?_);refine gL 46 Try.func56 #[.int .i64 a0] ?_;(with_reducible refine(fbl.calls k1 a0 zf _ A23.out).mono ?_);rintro e w' ⟨rfl,⟨nd,rfl⟩⟩;refine⟨_,rfl,?_⟩;(try (rw[drewN_self w43];generalize hq_:World.drewN w43 _=w43;have n0_:Aside0 (w43.heap[zc]?=some (.cells (aT yb yc yd ye yf yg yh yi yj yl ya.length ym) 24 (0,0))):=⟨by rw[← hq_];exact(pK za.out)⟩;have n1_:Aside0 (Below w.heap.size w w43):=⟨by rw[← hq_];exact(qB1 HB zb)⟩;clear za HB hq_;have za:=n0_;have HB:=n1_;clear n0_ n1_)))|((with_reducible refine gC 56 rfl ?_);refine gL 57 Try.func56 #[.int .i64 a0] ?_;(with_reducible refine(fbl.calls k1 a0 zl _ A31.out).mono ?_);rintro e w' ⟨rfl,⟨nd,rfl⟩⟩;refine⟨_,rfl,?_⟩;(try (rw[drewN_self w43];generalize hq_:World.drewN w43 _=w43;have n0_:Aside0 (w43.heap[zc]?=some (.cells (aT yb yc yd ye yf yg yh yi yj yl ya.length ym) 24 (0,0))):=⟨by rw[← hq_];exact(pK za.out)⟩;have n1_:Aside0 (Below w.heap.size w w43):=⟨by rw[← hq_];exact(qB1 HB zb)⟩;clear za HB hq_;have za:=n0_;have HB:=n1_;clear n0_ n1_));have hcz44:=blk10 za.out)|((with_reducible refine gC 11 rfl ?_);refine gL 72 Try.func11 #[.int .i64 a0,.agg (aT yb yc yd ye yf yg yh yi yj yl ya.length ym),.slice A2 l2.length c2] ?_;(with_reducible refine(fbg.calls k1 a0 yb yc yd ye yf yg yh yi yj _ _ ya _ _ l2 zab zac zad z3 _ ?s1 zz.out ?s3 HC2.out A40.out).mono ?_);(case s1=>exact sC zy HB);(case s3=>exact sC HR2 HB);rintro e w45 ⟨v1100,v1103,v1106,rfl,ho0,ho1,ho2,hb⟩;refine⟨_,rfl,?_⟩;have zh:=aM (Kd.R_lower ho0 (below_size (qB1 HB zb)));have zm:=aM (Kd.R_lower ho1 (below_size (qB1 HB zb)));have zn:=aM (Kd.R_lower ho2 (below_size (qB1 HB zb)));replace za:=bK za hb;replace HB:=bS (qB1 HB zb) hb)|((with_reducible refine gD 10 rfl ?_);refine bX 10 32 #[.slice none 0 0,.slice none 0 0,.slice none 0 0] ?_;intro yal hg w46 hbox hb;replace zh:=bR zh hb;replace zm:=bR zm hb;replace zn:=bR zn hb;have z4:=aM (hbox);have z8:=gE (w:=w) hg (qB1 HB zb);have z9:=z8;replace HB:=bS (qB1 HB zb) hb;have zi:=nL hg za;have zj:=nG hg za;replace za:=bK za hb;clear hb hbox hg;obtain⟨Ao47,co47,yba⟩:=Kd.R_slice zh.out;subst yba;have hnb48:=zj.out;have hnc48:=zi.out;have hcz49:=blk3 z4.out;obtain⟨Ao50,co50,ybb⟩:=Kd.R_slice zm.out;subst ybb;obtain⟨Ao51,co51,ybc⟩:=Kd.R_slice zn.out;subst ybc))
  go_ret2
  exact⟨_,pE,by(with_reducible repeat(first|apply rA|apply rN|apply rD));exact F3 zh z4 (fun _ hk=>trivial),qB2 HB zb z9⟩
 rw[ip c32] at H
 have yax:=bT c32
 have yay:=nF c32
 clear c32
 by_cases c33:0<(l2.length:Int)
 rotate_left
 ·rw[iN c33] at H
  cases H
 rw[ip c33] at H
 have c33b0:=dT c33
 have c33b1:decide (0<l2.length)=true:=decide_eq_true (by omega)
 clear c33
 by_cases c34:1<(l2.length:Int)
 rotate_left
 ·rw[iN c34] at H
  cases H
 rw[ip c34] at H
 have c34b0:=dT c34
 have c34b1:decide (1<l2.length)=true:=decide_eq_true (by omega)
 clear c34
 replace H:=oB H
 obtain⟨⟨t1095,t1096⟩,zaq,H⟩:=H
 try dsimp only at H
 have A35:=aM zaq
 clear zaq
 replace H:=oi2 H
 obtain⟨rfl,rfl⟩:=H
 have hcz36:=blk10 za.out
 try go_wp2_with (first|((with_reducible refine gC 27 rfl ?_);refine gL 36 Try.func27 #[.int .i64 a0,.agg (aT yb yc yd ye yf yg yh yi yj yl ya.length ym)] ?_;(with_reducible refine(fbm.calls k1 a0 yb yc yd ye yf yg yh yi yj _ _ ya true _ ?s1 zz.out A15.out).mono ?_);(case s1=>exact sC zy HB);rintro e w37 ⟨rfl,hb⟩;refine⟨_,rfl,?_⟩;replace za:=bK za hb;replace HB:=bS (qB1 HB zb) hb)|((with_reducible refine gC 56 rfl ?_);refine gL 39 Try.func56 #[.int .i64 a0] ?_;(with_reducible refine(fbl.calls k1 a0 zd _ A17.out).mono ?_);rintro e w' ⟨rfl,⟨nd,rfl⟩⟩;refine⟨_,rfl,?_⟩)|((with_reducible refine gC 56 rfl ?_);refine gL 46 Try.func56 #[.int .i64 a0] ?_;(with_reducible refine(fbl.calls k1 a0 zf _ A23.out).mono ?_);rintro e w' ⟨rfl,⟨nd,rfl⟩⟩;refine⟨_,rfl,?_⟩)|((with_reducible refine gC 56 rfl ?_);refine gL 57 Try.func56 #[.int .i64 a0] ?_;(with_reducible refine(fbl.calls k1 a0 zl _ A31.out).mono ?_);rintro e w' ⟨rfl,⟨nd,rfl⟩⟩;refine⟨_,rfl,?_⟩))
 (try (rw[drewN_self w37];generalize hq_:World.drewN w37 _=w37;have n0_:Aside0 (w37.heap[zc]?=some (.cells (aT yb yc yd ye yf yg yh yi yj yl ya.length ym) 24 (0,0))):=⟨by rw[← hq_];exact(pK za.out)⟩;have n1_:Aside0 (Below w.heap.size w w37):=⟨by rw[← hq_];exact(qB1 HB zb)⟩;clear za HB hq_;have za:=n0_;have HB:=n1_;clear n0_ n1_))
 replace za:=aM (blk_drew za.out)
 replace HB:=aM (below_drew1 HB.out)
 have ya1:0≤(0:Int):=(by omega)
 have ya2:0<(l2.length:Int):=oD
 obtain⟨yy,y7,y8,ya3,yo,y1,y2⟩:=at_L1 HR2.out 0 ya1 ya2
 have yu:=yo
 (try rw[show ((0:Int)).toNat=0 from rfl] at yu)
 (try rw[show 0*1=0 from rfl] at yu)
 (try rw[Addr.add_zero'] at yu)
 cases ya3
 have qi1093:(0<l2.length)=True:=eq_true (by omega)
 (try rw[show ((0:Int)).toNat=0 from rfl] at yo)
 (try rw[Addr.add_zero'] at yo)
 replace yo:=zW HB yo
 have z6:=aM y2
 have yaf:=aM y1
 clear y2 y1
 have ya4:0≤(1:Int):=(by omega)
 have ya5:1<(l2.length:Int):=oD
 obtain⟨yam,y9,yaa,ya6,yp,y3,y4⟩:=at_L1 HR2.out 1 ya4 ya5
 have yv:=yp
 (try rw[show ((1:Int)).toNat=1 from rfl] at yv)
 (try rw[show 1*1=1 from rfl] at yv)
 (try simp only[Nat.reduceMul,Nat.reduceEqDiff,Go.Addr.add,↓reduceIte] at yv)
 obtain rfl:yy=yam:=(by injection ya6)
 (try simp only[show (1:Int).toNat=1 from rfl,Nat.reduceMul,Nat.reduceEqDiff,Go.Addr.add,↓reduceIte] at yp)
 have qi1094:(1<l2.length)=True:=eq_true (by omega)
 (try rw[show ((1:Int)).toNat=1 from rfl] at yp)
 replace yp:=zW HB yp
 have z7:=aM y4
 have yag:=aM y3
 clear y4 y3
 refine sT 11 [] (fun w'=>w'.cell? yy=some (.slice y7 (rd_L1 l2 0).length y8)∧w'.cell? ⟨yy.block,yy.off+1,none⟩=some (.slice y9 (rd_L1 l2 1).length yaa)) fbo.tab19 fbo.bits19 ⟨(zW HB yu),(zW HB yv)⟩ (fun hHeld HT_ HW_=>?_)
 generalize w37.drew=w38 at za HB z6 z7 yo yp hHeld ⊢
 refine pQ 0 59 11 1 HT_ ?_
 refine pQ 1 60 11 3 HT_ ?_
 refine pQ 3 62 11 11 HT_ ?_
 refine pQ 4 63 11 27 HT_ ?_
 refine pU2 2 61 11 31 HT_ HW_ hHeld ?_
 refine pU2 5 64 11 63 HT_ HW_ hHeld ?_
 refine oN 6 65 11 127 HT_ (fun K hK=>?_)
 refine gS Try.func60 #[.slice y7 (rd_L1 l2 0).length y8,.slice y9 (rd_L1 l2 1).length yaa] ?_
 with_reducible refine(fbf.calls k1 _ _ (rd_L1 l2 0) _ _ (rd_L1 l2 1) t1095 t1096 _ ?s1 yaf.out ?s3 yag.out A35.out).mono ?_
 (case s1=>exact sC z6 HB)
 (case s3=>exact sC z7 HB)
 rintro e w39 ⟨v1097,rfl,ho0,hb⟩
 refine⟨_,rfl,?_⟩
 have HO1098:=aM (Kd.R_lower ho0 (below_size (qB1 HB zb)))
 replace za:=bK za hb
 replace HB:=bS (qB1 HB zb) hb
 refine hK.out _ _ ⟨(zW HB yu),(zW HB yv)⟩ (fun hHeld=>?_)
 clear hK K
 refine nM 65 ?_
 refine pQ 7 66 11 255 HT_ ?_
 refine pQ 8 67 11 511 HT_ ?_
 refine pQ 9 6 11 1023 HT_ ?_
 refine pQ 10 7 11 2047 HT_ ?_
 refine dN HT_ ?_
 try go_wp2
 go_ret2
 exact⟨_,pE,pR HO1098.out,qB1 HB zb⟩
def faa.f (k:Nat) (a0 yd ye yf yg ya yb yh yi:Int)(yj:Bool)(yc:List Int)(l2:List (List Int)):Option (Bool):=(fab.f k yd ye yf yg ya yb yh yi yj yc l2).bind fun zn=>(if zn=true then((fac.f).bind fun zo=>(some zo))else((fbr.f k a0 yd ye yf yg ya yb yh yi yj yc l2).bind fun bt1113=>((fbo.f k a0 yd ye yf yg ya yb yh yi yj yc l2).bind fun bt1117=>(if bt1113.2=bt1117.2 then((fae.f k bt1113.1 bt1117.1).bind fun zp=>(if zp=true then((fbp.f k a0 yd ye yf yg ya yb yh yi yj yc).bind fun zf=>((fbm.f k a0 yd ye yf yg ya yb yh yi yj yc).bind fun zg=>(if(zf==zg)=true then((fbq.f ya yb).bind fun zh=>((fbn.f ya yb).bind fun zi=>(if(zh==zi)=true then((fac.f).bind fun zq=>(some zq))else(some false))))else(some false))))else(some false)))else(some false)))))
def faa.T5:TT:=(true,[([],[]),([],[]),([0,1],[0,1]),([2],[2]),([3],[3]),([3],[3]),([4,5,3,3],[3,4,5]),([3,6],[3,6]),([7,6],[7]),([8],[8]),([8],[8]),([9,10,8,8],[8,9,10]),([8],[8]),([8],[8]),([12,13,11,8],[8,12,13]),([11,14,8],[8,11,14]),([8,15],[8,15]),([16,14],[16]),([17],[17]),([18,17],[17,18]),([17],[17]),([20,17],[17,20]),([19,21,17,17],[17,19,21]),([17],[17]),([23,17],[17,23]),([17],[17]),([25,17],[17,25]),([24,26,22,17],[17,24,26]),([22,27,17],[17,22,27]),([17,28],[17,28]),([29,27],[29]),([30,30],[30]),([30,31],[30,31]),([32,31,0,1,2,3,4,5,6,7,8,9,10,11,12,13,14,15,16,17,18,19,20,21,22,23,24,25,26,27,28,29,30,31,32],[32])])
def faa.B5:List Nat:=[0,0,3,7,15,15,63,127,255,511,511,2047,511,511,16383,32767,65535,131071,262143,524287,262143,1310719,4194303,262143,8650751,262143,33816575,134217727,268435455,536870911,1073741823,2147483647,4294967295,8589934591]
theorem faa.tab5:rtab .any (opsOf Try.f6 5)=faa.T5:=by kernel_rfl
theorem faa.bits5:waitsOk faa.T5.2 faa.B5=true:=by kernel_rfl
theorem faa.calls (k:Nat) (a0 yd ye yf yg ya yb yh yi:Int)(yj:Bool)(yk:Option Addr)(yl:Nat)(yc:List Int)(A2:Option Addr)(c2:Nat)(l2:List (List Int))(w:World)(ym:Kd.C (Kd.int .i64) w yk yc.length yc)(yn:yc.length≤yl)(hr2:Kd.C (Kd.slice 3 (Kd.int .i64)) w A2 l2.length l2)(hc2:l2.length≤c2)(h:faa.f k a0 yd ye yf yg ya yb yh yi yj yc l2=some true) :
  Calls Try.prog 6 #[.int .i64 a0,.agg #[.int .i64 yd,.int .i64 ye,.int .i64 yf,.int .i64 yg,.int .i64 ya,.int .i64 yb,.int .i64 yh,.int .i64 yi,.bool yj,.slice yk yc.length yl],.slice A2 l2.length c2] w fun e w'=>e=.returned (.bool true)∧Below w.heap.size w w':=by
 have hu24:=Try.underlying24
 have zj:=aM ym
 have zk:=aM yn
 clear ym yn
 have HR2:=aM hr2
 have HC2:=aM hc2
 clear hr2 hc2
 have HB:=aM (Below.refl w.heap.size w)
 have H:((fab.f k yd ye yf yg ya yb yh yi yj yc l2).bind fun zn=>(if zn=true then((fac.f).bind fun zo=>(some zo))else((fbr.f k a0 yd ye yf yg ya yb yh yi yj yc l2).bind fun bt1113=>((fbo.f k a0 yd ye yf yg ya yb yh yi yj yc l2).bind fun bt1117=>(if bt1113.2=bt1117.2 then((fae.f k bt1113.1 bt1117.1).bind fun zp=>(if zp=true then((fbp.f k a0 yd ye yf yg ya yb yh yi yj yc).bind fun zf=>((fbm.f k a0 yd ye yf yg ya yb yh yi yj yc).bind fun zg=>(if(zf==zg)=true then((fbq.f ya yb).bind fun zh=>((fbn.f ya yb).bind fun zi=>(if(zh==zi)=true then((fac.f).bind fun zq=>(some zq))else(some false))))else(some false))))else(some false)))else(some false))))))=some true:=h
 clear h
 replace H:=oB H
 obtain⟨zn,A40,H⟩:=H
 try dsimp only at H
 have A4:=aM A40
 clear A40
 by_cases c5:zn=true
 ·subst c5
  rw[ip rfl] at H
  replace H:=oB H
  obtain⟨zo,A60,H⟩:=H
  try dsimp only at H
  have A6:=aM A60
  clear A60
  have hv_:=aM (Option.some.inj H)
  clear H
  go_enter Try.func6,Try.ntmps6
  go_wp2_with (first|((with_reducible refine gD 4 rfl ?_);refine bX 4 24 (aT yd ye yf yg ya yb yh yi yj yk yc.length yl) ?_;intro ze hg w7 hbox hb;have za:=aM (hbox);have zr:=gE (w:=w) hg (qB HB);have zc:=zr;replace HB:=bS (qB HB) hb;clear hb hbox hg;have hcz8:=blk10 za.out)|((with_reducible refine gC 22 rfl ?_);refine gL 13 Try.func22 #[.agg (aT yd ye yf yg ya yb yh yi yj yk yc.length yl),.slice A2 l2.length c2] ?_;(with_reducible refine(fab.calls k yd ye yf yg ya yb yh yi yj _ _ yc _ _ l2 true _ ?s1 zk.out ?s3 HC2.out A4.out).mono ?_);(case s1=>exact sC zj HB);(case s3=>exact sC HR2 HB);rintro e w9 ⟨rfl,hb⟩;refine⟨_,rfl,?_⟩;replace za:=bK za hb;replace HB:=bS (qB1 HB zc) hb)|((with_reducible refine gC 23 rfl ?_);refine gL 14 Try.func23 #[] ?_;(with_reducible refine(fac.calls  zo _ A6.out).mono ?_);rintro e w10 ⟨rfl,hb⟩;refine⟨_,rfl,?_⟩;replace za:=bK za hb;replace HB:=bS (qB1 HB zc) hb))
  go_ret
  replace hv_:=hv_.out
  exact⟨pE,qB1 HB zc⟩
 replace c5:=Bool.eq_false_iff.mpr c5
 subst c5
 rw[iN fT] at H
 replace H:=oB H
 obtain⟨⟨zs,zl⟩,zu,H⟩:=H
 try dsimp only at H
 have A11:=aM zu
 clear zu
 replace H:=oB H
 obtain⟨⟨zt,zm⟩,zv,H⟩:=H
 try dsimp only at H
 have A12:=aM zv
 clear zv
 by_cases c13:zl=zm
 rotate_left
 ·rw[iN c13] at H
  have yo:=bF c13
  have yp:=nT c13
  cases H
 rw[ip c13] at H
 have yo:=bT c13
 have yp:=nF c13
 clear c13
 replace H:=oB H
 obtain⟨zp,zw,H⟩:=H
 try dsimp only at H
 have A14:=aM zw
 clear zw
 by_cases c15:zp=true
 rotate_left
 ·replace c15:=Bool.eq_false_iff.mpr c15
  subst c15
  rw[iN fT] at H
  cases H
 subst c15
 rw[ip rfl] at H
 replace H:=oB H
 obtain⟨zf,zx,H⟩:=H
 try dsimp only at H
 have A16:=aM zx
 clear zx
 replace H:=oB H
 obtain⟨zg,zy,H⟩:=H
 try dsimp only at H
 have A17:=aM zy
 clear zy
 by_cases c18:(zf==zg)=true
 rotate_left
 ·rw[iN c18] at H
  have yq:(zf==zg)=false:=by simpa using c18
  (try (have yr:decide (zf=zg)=false:=by simpa using c18))
  (try (have ys:(zf==zg)=false:=by simpa using c18))
  (try (have c18b3:¬ (zf=zg):=by simpa using c18))
  clear c18
  cases H
 rw[ip c18] at H
 have yq:(zf==zg)=true:=c18
 (try (have yr:decide (zf=zg)=true:=by simpa using c18))
 (try (have ys:(zf==zg)=true:=by simpa using c18))
 clear c18
 replace H:=oB H
 obtain⟨zh,zz,H⟩:=H
 try dsimp only at H
 have A19:=aM zz
 clear zz
 replace H:=oB H
 obtain⟨zi,z0,H⟩:=H
 try dsimp only at H
 have A20:=aM z0
 clear z0
 by_cases c21:(zh==zi)=true
 rotate_left
 ·rw[iN c21] at H
  have yt:(zh==zi)=false:=by simpa using c21
  (try (have yu:decide (zh=zi)=false:=by simpa using c21))
  (try (have yv:(zh==zi)=false:=by simpa using c21))
  (try (have c21b3:¬ (zh=zi):=by simpa using c21))
  clear c21
  cases H
 rw[ip c21] at H
 have yt:(zh==zi)=true:=c21
 (try (have yu:decide (zh=zi)=true:=by simpa using c21))
 (try (have yv:(zh==zi)=true:=by simpa using c21))
 clear c21
 replace H:=oB H
 obtain⟨zq,z1,H⟩:=H
 try dsimp only at H
 have A22:=aM z1
 clear z1
 have hv_:=aM (Option.some.inj H)
 clear H
 go_enter Try.func6,Try.ntmps6
 try go_wp2_with (first|((with_reducible refine gD 4 rfl ?_);refine bX 4 24 (aT yd ye yf yg ya yb yh yi yj yk yc.length yl) ?_;intro ze hg w23 hbox hb;have za:=aM (hbox);have zr:=gE (w:=w) hg (qB HB);have zc:=zr;replace HB:=bS (qB HB) hb;clear hb hbox hg;have hcz24:=blk10 za.out)|((with_reducible refine gC 22 rfl ?_);refine gL 13 Try.func22 #[.agg (aT yd ye yf yg ya yb yh yi yj yk yc.length yl),.slice A2 l2.length c2] ?_;(with_reducible refine(fab.calls k yd ye yf yg ya yb yh yi yj _ _ yc _ _ l2 false _ ?s1 zk.out ?s3 HC2.out A4.out).mono ?_);(case s1=>exact sC zj HB);(case s3=>exact sC HR2 HB);rintro e w25 ⟨rfl,hb⟩;refine⟨_,rfl,?_⟩;replace za:=bK za hb;replace HB:=bS (qB1 HB zc) hb;have hcz26:=blk10 za.out)|((with_reducible refine gC 24 rfl ?_);refine gL 19 Try.func24 #[.int .i64 a0,.agg (aT yd ye yf yg ya yb yh yi yj yk yc.length yl),.slice A2 l2.length c2] ?_;(with_reducible refine(fbr.calls k a0 yd ye yf yg ya yb yh yi yj _ _ yc _ _ l2 zs zl _ ?s1 zk.out ?s3 HC2.out A11.out).mono ?_);(case s1=>exact sC zj HB);(case s3=>exact sC HR2 HB);rintro e w27 ⟨v1114,rfl,ho0,hb⟩;refine⟨_,rfl,?_⟩;have zb:=aM (Kd.R_lower ho0 (below_size (qB1 HB zc)));replace za:=bK za hb;replace HB:=bS (qB1 HB zc) hb;have hcz28:=blk10 za.out)|((with_reducible refine gC 25 rfl ?_);refine gL 26 Try.func25 #[.int .i64 a0,.agg (aT yd ye yf yg ya yb yh yi yj yk yc.length yl),.slice A2 l2.length c2] ?_;(with_reducible refine(fbo.calls k a0 yd ye yf yg ya yb yh yi yj _ _ yc _ _ l2 zt zm _ ?s1 zk.out ?s3 HC2.out A12.out).mono ?_);(case s1=>exact sC zj HB);(case s3=>exact sC HR2 HB);rintro e w29 ⟨v1118,rfl,ho0,hb⟩;refine⟨_,rfl,?_⟩;have zd:=aM (Kd.R_lower (Kd.R_new' ho0 (Kd.R_lt (pR zb.out))) (below_size (qB1 HB zc)));replace zb:=eR zb ho0 hb;replace za:=bK za hb;replace HB:=bS (qB1 HB zc) hb))
 replace zb:=aM (Kd.R_drew zb.out)
 replace zd:=aM (Kd.R_drew zd.out)
 replace za:=aM (blk_drew za.out)
 replace HB:=aM (below_drew1 HB.out)
 obtain⟨yw,yx,z2⟩:=Kd.R_slice zb.out
 (first|subst z2|(injection z2 with f1_ f2_ f3_;have f4_:=f1_.symm;have f5_:=f3_.symm;clear f1_ f2_ f3_;subst f4_;subst f5_))
 obtain⟨yy,yz,z3⟩:=Kd.R_slice zd.out
 (first|subst z3|(injection z3 with f1_ f2_ f3_;have f4_:=f1_.symm;have f5_:=f3_.symm;clear f1_ f2_ f3_;subst f4_;subst f5_))
 refine sT 34 [] (fun w'=>w'.cell? ⟨ze,0,none⟩=some (.int .i64 yd)∧w'.cell? ⟨ze,1,none⟩=some (.int .i64 ye)∧w'.cell? ⟨ze,2,none⟩=some (.int .i64 yf)∧w'.cell? ⟨ze,3,none⟩=some (.int .i64 yg)∧w'.cell? ⟨ze,4,none⟩=some (.int .i64 ya)∧w'.cell? ⟨ze,5,none⟩=some (.int .i64 yb)∧w'.cell? ⟨ze,6,none⟩=some (.int .i64 yh)∧w'.cell? ⟨ze,7,none⟩=some (.int .i64 yi)∧w'.cell? ⟨ze,8,none⟩=some (.bool yj)∧w'.cell? ⟨ze,9,none⟩=some (.slice yk yc.length yl)) faa.tab5 faa.bits5 ⟨(blk_cell za.out 0).trans rfl,(blk_cell za.out 1).trans rfl,(blk_cell za.out 2).trans rfl,(blk_cell za.out 3).trans rfl,(blk_cell za.out 4).trans rfl,(blk_cell za.out 5).trans rfl,(blk_cell za.out 6).trans rfl,(blk_cell za.out 7).trans rfl,(blk_cell za.out 8).trans rfl,(blk_cell za.out 9).trans rfl⟩ (fun hHeld HT_ HW_=>?_)
 generalize w29.drew=w30 at zb zd za HB hHeld ⊢
 refine pQ 0 29 34 1 HT_ ?_
 refine pQ 1 30 34 3 HT_ ?_
 refine pQ 2 31 34 7 HT_ ?_
 refine pQ 3 32 34 15 HT_ ?_
 refine pQ 4 33 34 31 HT_ ?_
 refine pQ 5 34 34 63 HT_ ?_
 refine oN 6 35 34 127 HT_ (fun K hK=>?_)
 refine gS Try.func12 #[.slice yw zs.length yx,.slice yy zt.length yz] ?_
 with_reducible refine(fae.calls k _ _ zs _ _ zt true _ ?s1 ?s2 ?s3 ?s4 A14.out).mono ?_
 (case s1=>exact sR zb)
 (case s2=>exact sL zb)
 (case s3=>exact sR zd)
 (case s4=>exact sL zd)
 rintro e w' ⟨rfl,⟨nd,rfl⟩⟩
 refine⟨_,rfl,?_⟩
 refine hK.out _ _ ⟨(blk_cell za.out 0).trans rfl,(blk_cell za.out 1).trans rfl,(blk_cell za.out 2).trans rfl,(blk_cell za.out 3).trans rfl,(blk_cell za.out 4).trans rfl,(blk_cell za.out 5).trans rfl,(blk_cell za.out 6).trans rfl,(blk_cell za.out 7).trans rfl,(blk_cell za.out 8).trans rfl,(blk_cell za.out 9).trans rfl⟩ (fun hHeld=>?_)
 clear hK K
 refine nM 35 ?_
 refine pQ 7 36 34 255 HT_ ?_
 refine pQ 8 37 34 511 HT_ ?_
 refine pQ 9 38 34 1023 HT_ ?_
 refine pQ 12 41 34 5119 HT_ ?_
 refine pU10 10 39 34 6143 HT_ HW_ hHeld ?_
 refine pU10 13 42 34 14335 HT_ HW_ hHeld ?_
 refine oN 11 40 34 16383 HT_ (fun K hK=>?_)
 refine gS Try.func26 #[.int .i64 a0,.agg (aT yd ye yf yg ya yb yh yi yj yk yc.length yl)] ?_
 with_reducible refine(fbp.calls k a0 yd ye yf yg ya yb yh yi yj _ _ yc zf _ ?s1 zk.out A16.out).mono ?_
 (case s1=>exact pC (Kd.C_below zj.out (qB1 HB zc)))
 rintro e w33 ⟨rfl,hb⟩
 refine⟨_,rfl,?_⟩
 replace zb:=bR zb hb
 replace zd:=bR zd hb
 replace za:=bK za hb
 replace HB:=bS (qB1 HB zc) hb
 refine hK.out _ _ ⟨(blk_cell za.out 0).trans rfl,(blk_cell za.out 1).trans rfl,(blk_cell za.out 2).trans rfl,(blk_cell za.out 3).trans rfl,(blk_cell za.out 4).trans rfl,(blk_cell za.out 5).trans rfl,(blk_cell za.out 6).trans rfl,(blk_cell za.out 7).trans rfl,(blk_cell za.out 8).trans rfl,(blk_cell za.out 9).trans rfl⟩ (fun hHeld=>?_)
 clear hK K
 refine nM 40 ?_
 refine oN 14 43 34 32767 HT_ (fun K hK=>?_)
 refine gS Try.func27 #[.int .i64 a0,.agg (aT yd ye yf yg ya yb yh yi yj yk yc.length yl)] ?_
 with_reducible refine(fbm.calls k a0 yd ye yf yg ya yb yh yi yj _ _ yc zg _ ?s1 zk.out A17.out).mono ?_
 (case s1=>exact sC zj HB)
 rintro e w34 ⟨rfl,hb⟩
 refine⟨_,rfl,?_⟩
 replace zb:=bR zb hb
 replace zd:=bR zd hb
 replace za:=bK za hb
 replace HB:=bS (qB1 HB zc) hb
 refine hK.out _ _ ⟨(blk_cell za.out 0).trans rfl,(blk_cell za.out 1).trans rfl,(blk_cell za.out 2).trans rfl,(blk_cell za.out 3).trans rfl,(blk_cell za.out 4).trans rfl,(blk_cell za.out 5).trans rfl,(blk_cell za.out 6).trans rfl,(blk_cell za.out 7).trans rfl,(blk_cell za.out 8).trans rfl,(blk_cell za.out 9).trans rfl⟩ (fun hHeld=>?_)
 clear hK K
 refine nM 43 ?_
 refine pQ 15 44 34 65535 HT_ ?_
 refine pQ 16 45 34 131071 HT_ ?_
 refine pQ 17 46 34 262143 HT_ ?_
 refine pQ 18 47 34 524287 HT_ ?_
 refine pQ 20 49 34 1572863 HT_ ?_
 refine pQ 23 52 34 9961471 HT_ ?_
 refine pQ 25 54 34 43515903 HT_ ?_
 refine pU10 19 48 34 44040191 HT_ HW_ hHeld ?_
 refine pU10 21 50 34 46137343 HT_ HW_ hHeld ?_
 refine pU10 24 53 34 62914559 HT_ HW_ hHeld ?_
 refine pU10 26 55 34 130023423 HT_ HW_ hHeld ?_
 refine oN 22 51 34 134217727 HT_ (fun K hK=>?_)
 refine gS Try.func28 #[.int .i64 ya,.int .i64 yb] ?_
 with_reducible refine(fbq.calls ya yb zh _ A19.out).mono ?_
 rintro e w' ⟨rfl,⟨nd,rfl⟩⟩
 refine⟨_,rfl,?_⟩
 refine hK.out _ _ ⟨(blk_cell za.out 0).trans rfl,(blk_cell za.out 1).trans rfl,(blk_cell za.out 2).trans rfl,(blk_cell za.out 3).trans rfl,(blk_cell za.out 4).trans rfl,(blk_cell za.out 5).trans rfl,(blk_cell za.out 6).trans rfl,(blk_cell za.out 7).trans rfl,(blk_cell za.out 8).trans rfl,(blk_cell za.out 9).trans rfl⟩ (fun hHeld=>?_)
 clear hK K
 refine nM 51 ?_
 refine oN 27 56 34 268435455 HT_ (fun K hK=>?_)
 refine gS Try.func29 #[.int .i64 ya,.int .i64 yb] ?_
 with_reducible refine(fbn.calls ya yb zi _ A20.out).mono ?_
 rintro e w' ⟨rfl,⟨nd,rfl⟩⟩
 refine⟨_,rfl,?_⟩
 refine hK.out _ _ ⟨(blk_cell za.out 0).trans rfl,(blk_cell za.out 1).trans rfl,(blk_cell za.out 2).trans rfl,(blk_cell za.out 3).trans rfl,(blk_cell za.out 4).trans rfl,(blk_cell za.out 5).trans rfl,(blk_cell za.out 6).trans rfl,(blk_cell za.out 7).trans rfl,(blk_cell za.out 8).trans rfl,(blk_cell za.out 9).trans rfl⟩ (fun hHeld=>?_)
 clear hK K
 refine nM 56 ?_
 refine pQ 28 57 34 536870911 HT_ ?_
 refine pQ 29 58 34 1073741823 HT_ ?_
 refine pQ 30 59 34 2147483647 HT_ ?_
 refine oN 31 60 34 4294967295 HT_ (fun K hK=>?_)
 refine gS Try.func23 #[] ?_
 with_reducible refine(fac.calls  zq _ A22.out).mono ?_
 rintro e w35 ⟨rfl,hb⟩
 refine⟨_,rfl,?_⟩
 replace zb:=bR zb hb
 replace zd:=bR zd hb
 replace za:=bK za hb
 replace HB:=bS (qB1 HB zc) hb
 refine hK.out _ _ ⟨(blk_cell za.out 0).trans rfl,(blk_cell za.out 1).trans rfl,(blk_cell za.out 2).trans rfl,(blk_cell za.out 3).trans rfl,(blk_cell za.out 4).trans rfl,(blk_cell za.out 5).trans rfl,(blk_cell za.out 6).trans rfl,(blk_cell za.out 7).trans rfl,(blk_cell za.out 8).trans rfl,(blk_cell za.out 9).trans rfl⟩ (fun hHeld=>?_)
 clear hK K
 refine nM 60 ?_
 refine pQ 32 61 34 8589934591 HT_ ?_
 refine pQ 33 6 34 17179869183 HT_ ?_
 refine dN HT_ ?_
 try go_wp2
 go_ret
 replace hv_:=hv_.out
 exact⟨pE,qB1 HB zc⟩
end Go.Proofs.Ytcdiobcldhiemaa.Q
