/- Texts of the proof of MoveDims, part 2: what functions of the program compute, and that they compute it. -/
import Derived.Test.YtcdiobcldhiemaaKMoveDimsW
import Derived.Test.YtcdiobcldhiemaaKMoveDims1
set_option maxHeartbeats 8000000
set_option maxRecDepth 100000
namespace Go.Proofs.Ytcdiobcldhiemaa.Q
open Go.RowKit Go.Proofs.YtcdiobcldhiemaaW.PrintWords Go.Proofs.YtcdiobcldhiemaaW.PrintLast Go.Proofs.YtcdiobcldhiemaaW.PrintMore
attribute [local go_sem] max2_int min2_int max_two min_two max_three min_three max_four min_four   -- for this text's walks alone
set_option linter.unusedVariables false
set_option linter.unusedSimpArgs false
mutual
def fal.j0:Nat→List Int→Int→Int→Bool→Option (List Int×Int)
 | 0,_,_,_,_=>none
 | k + 1,x0,x1,x2,x23=>if x23=true then(some (([]:List Int),10))else(fal.l0 k x0 x1 x2 ([]:List Int) (x0.length:Int) 0)
def fal.l0:Nat→List Int→Int→Int→List Int→Int→Int→Option (List Int×Int)
 | 0,_,_,_,_,_,_=>none
 | k + 1,x0,x1,x2,x9,x25,x26=>if x26 < x25 then(if x26=x1 then(if x9.length < 17592186044416 then(fal.l0 k x0 x1 x2 (x9 ++ [x2]) x25 (wrap64 (x26 + 1)))else(none))else(if 0≤x26 then(if x26 < (x0.length:Int)then(if x9.length < 17592186044416 then(fal.l0 k x0 x1 x2 (x9 ++ [rd x0 x26]) x25 (wrap64 (x26 + 1)))else(none))else(none))else(none)))else((fag.f k x9).bind fun zc=>(if zc=0 then(some (x9,0))else(some (([]:List Int),zc))))
end
def fal.f (k:Nat) (l0:List Int) (a1:Int) (a2:Int):Option (List Int×Int):=(fag.f k l0).bind fun za=>(if za=0 then(if a1 < 0 then(fal.j0 k l0 a1 a2 true)else(fal.j0 k l0 a1 a2 (decide (a1 ≥ (l0.length:Int)))))else(some (([]:List Int),za)))
theorem fal.calls (k:Nat)(A0:Option Addr)(c0:Nat)(l0:List Int) (a1:Int) (a2:Int)(r1:List Int) (r2:Int)(w:World)(hr0:Kd.C (Kd.int .i64) w A0 l0.length l0)(hc0:l0.length≤c0)(h:fal.f k l0 a1 a2=some (r1,r2)) :
  Calls Try.prog 63 #[.slice A0 l0.length c0,.int .i64 a1,.int .i64 a2] w fun e w'=>∃ v0_:Value,e=.returned (.tuple #[v0_,.int .i64 r2])∧Kd.R (Kd.int .i64) 3 w' w.heap.size (fun _=>True) v0_ r1∧Below w.heap.size w w':=by
 have HR0:=aM hr0
 have HC0:=aM hc0
 clear hr0 hc0
 have HB:=aM (Below.refl w.heap.size w)
 have H:((fag.f k l0).bind fun za=>(if za=0 then(if a1 < 0 then(fal.j0 k l0 a1 a2 true)else(fal.j0 k l0 a1 a2 (decide (a1 ≥ (l0.length:Int)))))else(some (([]:List Int),za))))=some (r1,r2):=h
 clear h
 replace H:=oB H
 obtain⟨za,A40,H⟩:=H
 try dsimp only at H
 have A4:=aM A40
 clear A40
 by_cases c5:za=0
 rotate_left
 ·rw [iN c5] at H
  have zg:=bF c5
  have zh:=nT c5
  replace H:=oi2 H
  obtain⟨rfl,rfl⟩:=H
  go_enter Try.func63,Try.ntmps63
  go_wp2_with (first|((with_reducible refine gC 30 rfl ?_);refine gL 12 Try.func30 #[.slice A0 l0.length c0] ?_;(with_reducible refine(fag.calls k _ _ l0 za _ ?s1 HC0.out A4.out).mono ?_);(case s1=>exact pC HR0.out);rintro e w' ⟨rfl,⟨nd,rfl⟩⟩;refine⟨_,rfl,?_⟩))
  go_ret2
  exact⟨_,pE,pN,qB HB⟩
 rw [ip c5] at H
 have zg:=bT c5
 have zh:=nF c5
 clear c5
 have HC6:=aM H
 clear H
 go_enter Try.func63,Try.ntmps63
 go_upto_region 4 with(first|((with_reducible refine gC 30 rfl ?_);refine gL 12 Try.func30 #[.slice A0 l0.length c0] ?_;(with_reducible refine(fag.calls k _ _ l0 za _ ?s1 HC0.out A4.out).mono ?_);(case s1=>exact pC HR0.out);rintro e w' ⟨rfl,⟨nd,rfl⟩⟩;refine⟨_,rfl,?_⟩))
 (try simp only [Act.put,sP])
 go_cut [23] (fun v23 wc=>∃ (kq:Nat) (yc:Bool),v23=.bool yc∧Aside0 (fal.j0 kq l0 a1 a2 yc=some (r1,r2))∧Aside0 (kq≤k)∧Aside0 (Below w.heap.size w wc))
 case first =>
  have H:=HC6.out
  clear HC6
  by_cases c7:a1 < 0
  ·rw [ip c7] at H
   have zd:=dT c7
   clear c7
   (first|rw [zd]|(simp only [i64_w,i32_w];rw [zd])|skip)
   have H':=aM H
   clear H
   go_wp2
   go_meet
   case rel=>exact⟨_,(true),(pF),H',⟨pO⟩,⟨qB HB⟩⟩
  rw [iN c7] at H
  have zd:=dF c7
  clear c7
  (first|rw [zd]|(simp only [i64_w,i32_w];rw [zd])|skip)
  have H':=aM H
  clear H
  go_wp2
  go_meet
  case rel=>exact⟨_,(decide (a1 ≥ (l0.length:Int))),(pF),H',⟨pO⟩,⟨qB HB⟩⟩
 clear HC6
 try clear zg
 try clear zh
 obtain⟨kq,yc,rfl,HA,HJ5,HB⟩:=hcut
 cases kq with
 | zero=>exact absurd HA.out (by simp [fal.j0])
 | succ kj5=>?_
 have H:=HA.out
 clear HA
 simp only [fal.j0] at H
 by_cases c8:yc=true
 ·subst c8
  rw [ip rfl] at H
  replace H:=oi2 H
  obtain⟨rfl,rfl⟩:=H
  go_wp2
  go_ret2
  exact⟨_,pE,pN,qB HB⟩
 replace c8:=Bool.eq_false_iff.mpr c8
 subst c8
 rw [iN (show ¬ (false=true) by decide)] at H
 have H':=aM H
 clear H
 go_wp2
 go_loopg [9,26] kj5 (fun kq v9 v26 w'=>∃ (yb:List Int) (ya:Int),v26=.int .i64 ya∧Aside0 (fal.l0 kq l0 a1 a2 yb (l0.length:Int) ya=some (r1,r2))∧Aside0 (kq≤kj5)∧Aside0 (Kd.R (Kd.int .i64) 3 w' w.heap.size (fun _=>True) v9 yb)∧Aside0 (Below w.heap.size w w'))
 case atStart=>exact⟨(([]:List Int)),(0),(pF),H',⟨Nat.le_refl _⟩,⟨pN⟩,⟨qB HB⟩⟩
 clear H'
 try clear c8
 obtain⟨yb,ya,rfl,HA,HK2,zb,HB⟩:=hrel
 cases gk with
 | zero=>exact absurd HA.out (by simp [fal.l0])
 | succ k2=>?_
 have H:=HA.out
 clear HA
 simp only [fal.l0] at H
 by_cases c9:ya < (l0.length:Int)
 rotate_left
 ·rw [iN c9] at H
  have yi:=dF c9
  clear c9
  replace H:=oB H
  obtain⟨zc,zi,H⟩:=H
  try dsimp only at H
  have A17:=aM zi
  clear zi
  by_cases c18:zc=0
  rotate_left
  ·rw [iN c18] at H
   have ye:=bF c18
   have yf:=nT c18
   replace H:=oi2 H
   obtain⟨rfl,rfl⟩:=H
   obtain⟨yj,yk,yl⟩:=Kd.R_slice zb.out
   subst yl
   go_wp2_with (first|((with_reducible refine gC 30 rfl ?_);refine gL 45 Try.func30 #[.slice yj yb.length yk] ?_;(with_reducible refine(fag.calls k2 _ _ yb zc _ ?s1 ?s2 A17.out).mono ?_);(case s1=>exact sR zb);(case s2=>exact sL zb);rintro e w' ⟨rfl,⟨nd,rfl⟩⟩;refine⟨_,rfl,?_⟩))
   go_ret2
   exact⟨_,pE,pN,qB HB⟩
  rw [ip c18] at H
  have ye:=bT c18
  have yf:=nF c18
  clear c18
  replace H:=oi2 H
  obtain⟨rfl,rfl⟩:=H
  obtain⟨ym,yn,yo⟩:=Kd.R_slice zb.out
  subst yo
  go_wp2_with (first|((with_reducible refine gC 30 rfl ?_);refine gL 45 Try.func30 #[.slice ym yb.length yn] ?_;(with_reducible refine(fag.calls k2 _ _ yb zc _ ?s1 ?s2 A17.out).mono ?_);(case s1=>exact sR zb);(case s2=>exact sL zb);rintro e w' ⟨rfl,⟨nd,rfl⟩⟩;refine⟨_,rfl,?_⟩))
  go_ret2
  exact⟨_,pE,pR zb.out,qB HB⟩
 rw [ip c9] at H
 have yi:=dT c9
 clear c9
 by_cases c10:ya=a1
 ·rw [ip c10] at H
  have yg:=bT c10
  have yh:=nF c10
  clear c10
  by_cases c11:yb.length < 17592186044416
  rotate_left
  ·rw [iN c11] at H
   cases H
  rw [ip c11] at H
  have LMc11:=aM c11
  clear c11
  obtain⟨zj,ze⟩:∃ y_:List Int,y_=(yb ++ [a2]):=⟨_,rfl⟩
  replace H:(fal.l0 k2 l0 a1 a2 zj (l0.length:Int) (wrap64 (ya + 1)))=some (r1,r2):=pH ze H
  have Ny509:=aM ze
  clear ze
  have H':=aM H
  clear H
  go_wp2_with (first|((with_reducible refine gate_builtin (b:=.append) (xs:=#[.tmp 32,.tmp 34]) rfl ?_);(try (refine gate_guard (by rfl) ?_;dsimp only));at_builtin;refine Kd.R_append (Kd.int .i64) (w0:=w) w.heap.size rfl (.tmp 32) (.tmp 34) 22 3 (.int .i64 0) 8 rfl Try.underlying22 info3 rfl (by decide) (by omega) u9 yb a2 [.int .i64 a2] (fun _=>True) (fun _=>False) rfl rfl ?aP (fun _ hk=>hk.elim) ?aF ?aO ?aB ?aS ?aL ?_;(case aP=>exact rfl);(case aB=>exact(qB HB));(case aF=>exact(fun _ _=>trivial));(case aO=>exact(pR zb.out));(case aS=>exact(below_size (qB HB)));(case aL=>have:=LMc11.out;omega);intro v510 w12 ho hb hg hat;rw [← Ny509.out] at ho;replace HB:=aM (hb);have HO511:=aM (ho);clear zb;clear ho hb hg hat))
  go_roundg k2
  case measure=>have:=HJ5.out;have:=HK2.out;omega
  case rel=>exact⟨(zj),(wrap64 (ya + 1)),(pF),H',⟨pO2 HJ5 HK2⟩,⟨pR HO511.out⟩,⟨qB HB⟩⟩
 rw [iN c10] at H
 have yg:=bF c10
 have yh:=nT c10
 by_cases c13:0≤ya
 rotate_left
 ·rw [iN c13] at H
  cases H
 rw [ip c13] at H
 have c13b0:=dT c13
 clear c13
 by_cases c14:ya < (l0.length:Int)
 rotate_left
 ·rw [iN c14] at H
  cases H
 rw [ip c14] at H
 have c14b0:=dT c14
 clear c14
 by_cases c15:yb.length < 17592186044416
 rotate_left
 ·rw [iN c15] at H
  cases H
 rw [ip c15] at H
 have LMc15:=aM c15
 clear c15
 obtain⟨zk,zf⟩:∃ y_:List Int,y_=(yb ++ [rd l0 ya]):=⟨_,rfl⟩
 replace H:(fal.l0 k2 l0 a1 a2 zk (l0.length:Int) (wrap64 (ya + 1)))=some (r1,r2):=pH zf H
 have Ny513:=aM zf
 clear zf
 have H':=aM H
 clear H
 obtain⟨ad512,⟨⟩,yd,p512,q512⟩:=zI HR0.out ya
 replace yd:=zW HB yd
 go_wp2_with (first|((with_reducible refine gate_builtin (b:=.append) (xs:=#[.tmp 36,.tmp 41]) rfl ?_);(try (refine gate_guard (by rfl) ?_;dsimp only));at_builtin;refine Kd.R_append (Kd.int .i64) (w0:=w) w.heap.size rfl (.tmp 36) (.tmp 41) 22 3 (.int .i64 0) 8 rfl Try.underlying22 info3 rfl (by decide) (by omega) u9 yb (rd l0 ya) [.int .i64 (rd l0 ya)] (fun _=>True) (fun _=>False) rfl rfl ?aP (fun _ hk=>hk.elim) ?aF ?aO ?aB ?aS ?aL ?_;(case aP=>exact rfl);(case aB=>exact(qB HB));(case aF=>exact(fun _ _=>trivial));(case aO=>exact(pR zb.out));(case aS=>exact(below_size (qB HB)));(case aL=>have:=LMc15.out;omega);intro v514 w16 ho hb hg hat;rw [← Ny513.out] at ho;replace HB:=aM (hb);have HO515:=aM (ho);clear zb;clear ho hb hg hat))
 go_roundg k2
 case measure=>have:=HJ5.out;have:=HK2.out;omega
 case rel=>exact⟨(zk),(wrap64 (ya + 1)),(pF),H',⟨pO2 HJ5 HK2⟩,⟨pR HO515.out⟩,⟨qB HB⟩⟩
mutual
def fam.l0:Nat→List Int→List (List Int)→Int→Int→Option ((List (List Int)))
 | 0,_,_,_,_=>none
 | k + 1,x0,x3,x14,x15=>if x15 < x14 then(fam.l1 k x0 x3 x15 ([]:List (List Int)) x14 x15 (x3.length:Int) 0)else(some x3)
def fam.l1:Nat→List Int→List (List Int)→Int→List (List Int)→Int→Int→Int→Int→Option ((List (List Int)))
 | 0,_,_,_,_,_,_,_,_=>none
 | k + 1,x0,x3,x4,x5,x14,x15,x19,x20=>if x20 < x19 then(if 0≤x4 then(if x4 < (x0.length:Int)then(fam.l2 k x0 x3 x4 x5 x20 x14 x15 x19 x20 (rd x0 x4) 0)else(none))else(none))else(fam.l0 k x0 x5 x14 (wrap64 (x15 + 1)))
def fam.l2:Nat→List Int→List (List Int)→Int→List (List Int)→Int→Int→Int→Int→Int→Int→Int→Option ((List (List Int)))
 | 0,_,_,_,_,_,_,_,_,_,_,_=>none
 | k + 1,x0,x3,x4,x5,x6,x14,x15,x19,x20,x26,x27=>if x27 < x26 then((some (([]:List Int):List Int)).bind fun zf=>(if 0≤x6 then(if x6 < (x3.length:Int)then(if zf.length + (rd_L1 x3 x6).length < 17592186044416 then((some (zf ++ (rd_L1 x3 x6):List Int)).bind fun zd=>(if zd.length < 17592186044416 then(if x5.length < 5864062014805 then(fam.l2 k x0 x3 x4 (x5 ++ [(zd ++ [x27])]) x6 x14 x15 x19 x20 x26 (wrap64 (x27 + 1)))else(none))else(none)))else(none))else(none))else(none)))else(fam.l1 k x0 x3 x4 x5 x14 x15 x19 (wrap64 (x20 + 1)))
end
def fam.f (k:Nat) (l0:List Int):Option ((List (List Int))):=(fag.f k l0).bind fun ze=>(if ze=0 then(fam.l0 k l0 (([(([]:List Int))]:List (List Int))) (l0.length:Int) 0)else(some ([]:List (List Int))))
theorem fam.calls (k:Nat)(A0:Option Addr)(c0:Nat)(l0:List Int)(r:List (List Int))(w:World)(hr0:Kd.C (Kd.int .i64) w A0 l0.length l0)(hc0:l0.length≤c0)(h:fam.f k l0=some r) :
  Calls Try.prog 48 #[.slice A0 l0.length c0] w fun e w'=>∃ v0_:Value,e=.returned (v0_)∧Kd.N (Kd.slice 3 (Kd.int .i64)) 22 w' w.heap.size (fun k_=>(w.heap.size≤k_)) v0_ r∧Below w.heap.size w w':=by
 have HR0:=aM hr0
 have HC0:=aM hc0
 clear hr0 hc0
 have HB:=aM (Below.refl w.heap.size w)
 have H:((fag.f k l0).bind fun ze=>(if ze=0 then(fam.l0 k l0 (([(([]:List Int))]:List (List Int))) (l0.length:Int) 0)else(some ([]:List (List Int)))))=some r:=h
 clear h
 replace H:=oB H
 obtain⟨ze,A20,H⟩:=H
 try dsimp only at H
 have A2:=aM A20
 clear A20
 by_cases c3:ze=0
 rotate_left
 ·rw [iN c3] at H
  have z0:=bF c3
  have z1:=nT c3
  obtain rfl:=Option.some.inj H
  go_enter Try.func48,Try.ntmps48
  go_wp2_with (first|((with_reducible refine gC 30 rfl ?_);refine gL 9 Try.func30 #[.slice A0 l0.length c0] ?_;(with_reducible refine(fag.calls k _ _ l0 ze _ ?s1 HC0.out A2.out).mono ?_);(case s1=>exact pC HR0.out);rintro e w' ⟨rfl,⟨nd,rfl⟩⟩;refine⟨_,rfl,?_⟩))
  go_ret
  exact⟨_,pE,pN,qB HB⟩
 rw [ip c3] at H
 have z0:=bT c3
 have z1:=nF c3
 clear c3
 obtain⟨zj,zl⟩:∃ y_:List Int,y_=(([]:List Int)):=⟨_,rfl⟩
 replace H:(fam.l0 k l0 (([zj]:List (List Int))) (l0.length:Int) 0)=some r:=pH zl H
 have zs:=aM zl
 clear zl
 obtain⟨z2,zm⟩:∃ y_:List (List Int),y_=(([zj]:List (List Int))):=⟨_,rfl⟩
 replace H:(fam.l0 k l0 z2 (l0.length:Int) 0)=some r:=pH zm H
 have zt:=aM zm
 clear zm
 have H':=aM H
 clear H
 go_enter Try.func48,Try.ntmps48
 go_wp2_with (first|((with_reducible refine gC 30 rfl ?_);refine gL 9 Try.func30 #[.slice A0 l0.length c0] ?_;(with_reducible refine(fag.calls k _ _ l0 ze _ ?s1 HC0.out A2.out).mono ?_);(case s1=>exact pC HR0.out);rintro e w' ⟨rfl,⟨nd,rfl⟩⟩;refine⟨_,rfl,?_⟩)|((with_reducible refine gD 11 rfl ?_);refine Kd.R_lit (Kd.int .i64) _ 3 ?hg (N:=11) ?hd (xs:=([]:List Int)) (inner:=[]) (ok:=fun _=>True) (okp:=fun _=>True) ?hr ?hp (fun _ hk=>hk) trivial (Below.refl _ _) (Nat.le_refl _) (by simp) ?_;(case hd=>rfl);(case hg=>rfl);(case hr=>first|(go_simp;done)|(go_simp;rfl));(case hp=>exact(Reps.none _ _));intro v489 w4 ho5 hb hg_ hnew_;clear hg_ hnew_;(first|rw [← zs.out] at ho5|(simp only [Int.reduceToNat] at ho5;rw [← zs.out] at ho5));have zg:=aM (Kd.R_lower (Kd.R_newM (M:=fun k_=>(w.heap.size≤k_)) ho5 (below_size (qB HB)) (fun k_ h_=>h_)) (below_size (qB HB)));replace HB:=bS (qB HB) hb;clear hb ho5;obtain⟨Ao6,co6,eo6⟩:=Kd.R_slice zg.out;subst eo6)|((with_reducible refine gD 12 rfl ?_);refine Kd.N_lit (Kd.slice 3 (Kd.int .i64)) _ 22 ?hg (N':=12) ?hd (xs:=([zj]:List (List Int))) (inner:=[.slice Ao6 zj.length co6]) (ok:=(fun k_=>(w.heap.size≤k_))) (okp:=(fun k_=>(w.heap.size≤k_))) ?hr ?hp (fun _ hk=>hk) ((show ∀ k_,w4.heap.size≤k_→(fun k_=>(w.heap.size≤k_)) k_ from fun k_ hk=>(Nat.le_trans (below_size (qB HB)) hk)) _ (Nat.le_refl _)) (Below.refl _ _) (Nat.le_refl _) (by simp) ?_;(case hd=>rfl);(case hg=>rfl);(case hr=>first|(go_simp;done)|(go_simp;rfl));(case hp=>exact(Reps.one (show Kd.FK (Kd.slice 3 (Kd.int .i64)) _ _ zj [.slice Ao6 zj.length co6] from (Kd.FK_slice_mk (Kd.R_reads' (Kd.R_mono (ok':=(fun k_=>(w.heap.size≤k_))) (zg.out) (fun k_ hk=>hk.1))).2.1 (Kd.R_F (Kd.R_mono (ok':=(fun k_=>(w.heap.size≤k_))) (zg.out) (fun k_ hk=>hk.1))))) (Reps.none _ _)));intro v492 w7 ho8 hb hg_ hnew_;clear hg_ hnew_;(first|rw [← zt.out] at ho8|(simp only [Int.reduceToNat] at ho8;rw [← zt.out] at ho8));have HO493:=aM (Kd.N_lower ho8 (below_size (qB HB)));replace HB:=bS (qB HB) hb;clear zg;clear hb ho8))
 go_loopg [3,15] k (fun kq v3 v15 w'=>∃ (yb:List (List Int)) (yc:Int),v15=.int .i64 yc∧Aside0 (fam.l0 kq l0 yb (l0.length:Int) yc=some r)∧Aside0 (kq≤k)∧Aside0 (Kd.N (Kd.slice 3 (Kd.int .i64)) 22 w' w.heap.size (fun k_=>(w.heap.size≤k_)) v3 yb)∧Aside0 (Below w.heap.size w w'))
 case atStart=>exact⟨(z2),(0),(pF),H',⟨Nat.le_refl _⟩,⟨by(with_reducible repeat(first|apply Kd.N_alloc|apply Kd.N_drewN|apply Kd.N_drew));exact HO493.out⟩,⟨qB HB⟩⟩
 clear H'
 try clear z0
 try clear z1
 obtain⟨yb,yc,rfl,HA,HK1,za,HB⟩:=hrel
 cases gk with
 | zero=>exact absurd HA.out (by simp [fam.l0])
 | succ k1=>?_
 have H:=HA.out
 clear HA
 simp only [fam.l0] at H
 by_cases c9:yc < (l0.length:Int)
 rotate_left
 ·rw [iN c9] at H
  have z3:=dF c9
  clear c9
  obtain rfl:=Option.some.inj H
  go_wp2
  go_ret
  exact⟨_,pE,by(with_reducible repeat(first|apply Kd.N_alloc|apply Kd.N_drewN|apply Kd.N_drew));exact za.out,qB HB⟩
 rw [ip c9] at H
 have z3:=dT c9
 clear c9
 have H':=aM H
 clear H
 obtain⟨zr,zc,yt⟩:=Kd.N_slice za.out
 subst yt
 go_wp2
 go_loopg [5,20] k1 (fun kq v5 v20 w'=>∃ (yj:List (List Int)) (ya:Int),v20=.int .i64 ya∧Aside0 (fam.l1 kq l0 yb yc yj (l0.length:Int) yc (yb.length:Int) ya=some r)∧Aside0 (kq≤k1)∧Aside0 (Kd.N (Kd.slice 3 (Kd.int .i64)) 22 w' w.heap.size (fun k_=>(w.heap.size≤k_)∧some k_≠(v5:Value).ownBlock) (.slice zr yb.length zc) yb)∧Aside0 (Kd.N (Kd.slice 3 (Kd.int .i64)) 22 w' w.heap.size (fun k_=>(w.heap.size≤k_)∧some k_≠((.slice zr yb.length zc):Value).ownBlock) v5 yj)∧Aside0 (Below w.heap.size w w'))
 case atStart=>exact⟨(([]:List (List Int))),(0),(pF),H',⟨Nat.le_refl _⟩,⟨by(with_reducible repeat(first|apply Kd.N_alloc|apply Kd.N_drewN|apply Kd.N_drew));exact Kd.N_mono za.out (fun _ hk=>⟨hk,(by simp [Value.ownBlock])⟩)⟩,⟨pN⟩,⟨qB HB⟩⟩
 clear H'
 try clear z3
 obtain⟨yj,ya,rfl,HA,HK2,za,zb,HB⟩:=hrel
 cases gk with
 | zero=>exact absurd HA.out (by simp [fam.l1])
 | succ k2=>?_
 have H:=HA.out
 clear HA
 simp only [fam.l1] at H
 by_cases c11:ya < (yb.length:Int)
 rotate_left
 ·rw [iN c11] at H
  have zu:=dF c11
  clear c11
  have H':=aM H
  clear H
  go_wp2
  go_roundg k2
  case measure=>have:=HK1.out;have:=HK2.out;omega
  case rel=>exact⟨(yj),(wrap64 (yc + 1)),(pF),H',⟨pO2 HK1 HK2⟩,⟨by(with_reducible repeat(first|apply Kd.N_alloc|apply Kd.N_drewN|apply Kd.N_drew));exact Kd.N_mono zb.out (fun _ hk=>hk.1)⟩,⟨qB HB⟩⟩
 rw [ip c11] at H
 have zu:=dT c11
 clear c11
 by_cases c12:0≤yc
 rotate_left
 ·rw [iN c12] at H
  cases H
 rw [ip c12] at H
 have yo:=dT c12
 clear c12
 by_cases c13:yc < (l0.length:Int)
 rotate_left
 ·rw [iN c13] at H
  cases H
 rw [ip c13] at H
 have yp:=dT c13
 clear c13
 have H':=aM H
 clear H
 obtain⟨ad494,⟨⟩,yg,yu,yv⟩:=zI HR0.out yc
 replace yg:=zW HB yg
 go_wp2
 go_loopg [5,27] k2 (fun kq v5 v27 w'=>∃ (yf:List (List Int)) (yd:Int),v27=.int .i64 yd∧Aside0 (fam.l2 kq l0 yb yc yf ya (l0.length:Int) yc (yb.length:Int) ya (rd l0 yc) yd=some r)∧Aside0 (kq≤k2)∧Aside0 (Kd.N (Kd.slice 3 (Kd.int .i64)) 22 w' w.heap.size (fun k_=>(w.heap.size≤k_)∧some k_≠(v5:Value).ownBlock) (.slice zr yb.length zc) yb)∧Aside0 (Kd.N (Kd.slice 3 (Kd.int .i64)) 22 w' w.heap.size (fun k_=>(w.heap.size≤k_)∧some k_≠((.slice zr yb.length zc):Value).ownBlock) v5 yf)∧Aside0 (Below w.heap.size w w'))
 case atStart=>exact⟨(yj),(0),(pF),H',⟨Nat.le_refl _⟩,⟨by(with_reducible repeat(first|apply Kd.N_alloc|apply Kd.N_drewN|apply Kd.N_drew));exact za.out⟩,⟨by(with_reducible repeat(first|apply Kd.N_alloc|apply Kd.N_drewN|apply Kd.N_drew));exact zb.out⟩,⟨qB HB⟩⟩
 clear H'
 try clear zu
 try clear yo
 try clear yp
 try clear yg
 try clear yu
 try clear yv
 obtain⟨yf,yd,rfl,HA,HK3,za,zb,HB⟩:=hrel
 cases gk with
 | zero=>exact absurd HA.out (by simp [fam.l2])
 | succ k3=>?_
 have H:=HA.out
 clear HA
 simp only [fam.l2] at H
 by_cases c14:yd < (rd l0 yc)
 rotate_left
 ·rw [iN c14] at H
  have yq:=dF c14
  clear c14
  have H':=aM H
  clear H
  go_wp2
  go_roundg k3
  case measure=>have:=HK1.out;have:=HK2.out;have:=HK3.out;omega
  case rel=>exact⟨(yf),(wrap64 (ya + 1)),(pF),H',⟨by have:=HK1.out;have:=HK2.out;have:=HK3.out;omega⟩,⟨by(with_reducible repeat(first|apply Kd.N_alloc|apply Kd.N_drewN|apply Kd.N_drew));exact za.out⟩,⟨by(with_reducible repeat(first|apply Kd.N_alloc|apply Kd.N_drewN|apply Kd.N_drew));exact zb.out⟩,⟨qB HB⟩⟩
 rw [ip c14] at H
 have yq:=dT c14
 clear c14
 obtain⟨zf,zn⟩:∃ y_:List Int,y_=(([]:List Int)):=⟨_,rfl⟩
 replace H:(if 0≤ya then(if ya < (yb.length:Int)then(if zf.length + (rd_L1 yb ya).length < 17592186044416 then((some (zf ++ (rd_L1 yb ya):List Int)).bind fun zd=>(if zd.length < 17592186044416 then(if yf.length < 5864062014805 then(fam.l2 k3 l0 yb yc (yf ++ [(zd ++ [yd])]) ya (l0.length:Int) yc (yb.length:Int) ya (rd l0 yc) (wrap64 (yd + 1)))else(none))else(none)))else(none))else(none))else(none))=some r:=pH zn H
 have zv:=aM zn
 clear zn
 by_cases c15:0≤ya
 rotate_left
 ·rw [iN c15] at H
  cases H
 rw [ip c15] at H
 have c15b0:=dT c15
 clear c15
 by_cases c16:ya < (yb.length:Int)
 rotate_left
 ·rw [iN c16] at H
  cases H
 rw [ip c16] at H
 have c16b0:=dT c16
 clear c16
 by_cases c17:zf.length + (rd_L1 yb ya).length < 17592186044416
 rotate_left
 ·rw [iN c17] at H
  cases H
 rw [ip c17] at H
 have LMc17:=aM c17
 clear c17
 obtain⟨zd,zo⟩:∃ y_:List Int,y_=(zf ++ (rd_L1 yb ya)):=⟨_,rfl⟩
 replace H:(if zd.length < 17592186044416 then(if yf.length < 5864062014805 then(fam.l2 k3 l0 yb yc (yf ++ [(zd ++ [yd])]) ya (l0.length:Int) yc (yb.length:Int) ya (rd l0 yc) (wrap64 (yd + 1)))else(none))else(none))=some r:=pH zo H
 have Ny499:=aM zo
 clear zo
 by_cases c18:zd.length < 17592186044416
 rotate_left
 ·rw [iN c18] at H
  cases H
 rw [ip c18] at H
 have LMc18:=aM c18
 clear c18
 obtain⟨zk,zp⟩:∃ y_:List Int,y_=(zd ++ [yd]):=⟨_,rfl⟩
 replace H:(if yf.length < 5864062014805 then(fam.l2 k3 l0 yb yc (yf ++ [zk]) ya (l0.length:Int) yc (yb.length:Int) ya (rd l0 yc) (wrap64 (yd + 1)))else(none))=some r:=pH zp H
 have Ny502:=aM zp
 clear zp
 by_cases c19:yf.length < 5864062014805
 rotate_left
 ·rw [iN c19] at H
  cases H
 rw [ip c19] at H
 have LMc19:=aM c19
 clear c19
 obtain⟨z4,zq⟩:∃ y_:List (List Int),y_=(yf ++ [zk]):=⟨_,rfl⟩
 replace H:(fam.l2 k3 l0 yb yc z4 ya (l0.length:Int) yc (yb.length:Int) ya (rd l0 yc) (wrap64 (yd + 1)))=some r:=pH zq H
 have Ny505:=aM zq
 clear zq
 have H':=aM H
 clear H
 go_wp2_with (first|((with_reducible refine gD 31 rfl ?_);refine Kd.R_lit (Kd.int .i64) _ 3 ?hg (N:=31) ?hd (xs:=([]:List Int)) (inner:=[]) (ok:=fun _=>True) (okp:=fun _=>True) ?hr ?hp (fun _ hk=>hk) trivial (Below.refl _ _) (Nat.le_refl _) (by simp) ?_;(case hd=>rfl);(case hg=>rfl);(case hr=>first|(go_simp;done)|(go_simp;rfl));(case hp=>exact(Reps.none _ _));intro v496 w20 ho21 hb hg_ hnew_;clear hg_ hnew_;(first|rw [← zv.out] at ho21|(simp only [Int.reduceToNat] at ho21;rw [← zv.out] at ho21));replace za:=aM (Kd.N_elder' (by(with_reducible repeat(first|apply Kd.N_alloc|apply Kd.N_drewN|apply Kd.N_drew));exact za.out) (Kd.R_base ho21) hb);replace zb:=aM (Kd.N_elder' (by(with_reducible repeat(first|apply Kd.N_alloc|apply Kd.N_drewN|apply Kd.N_drew));exact zb.out) (Kd.R_base ho21) hb);have zw:=aM (Kd.R_lower (Kd.R_newM (M:=fun k_=>(w.heap.size≤k_)) ho21 (below_size (qB HB)) (fun k_ h_=>h_)) (below_size (qB HB)));replace HB:=bS (qB HB) hb;clear hb ho21;have yr:0≤(ya:Int):=oD;have ys:ya < (yb.length:Int):=oD;obtain⟨ye,A498_0,c498_0,yw,yl,yh,yi⟩:=at_L1 (Kd.N_reads' za.out).2.2 ya yr ys;cases yw;obtain⟨ce498,ym,yn,yk⟩:=Kd.N_get za.out [] ya yr (by first|exact ys|exact of_decide_eq_true pD|(have e_:=(Kd.N_reads' za.out).1;omega));obtain⟨ua498_0,uc498_0,rfl,ul498_0,ge498_0⟩:=Kd.FK_slice_open yn;have hv498_0:=yk 0 _ rfl;rw [Nat.add_zero,show ((Kd.slice 3 (Kd.int .i64))).sz=1 from rfl,Nat.mul_one] at hv498_0;replace hv498_0:=Option.some.inj (hv498_0.symm.trans yl);injection hv498_0 with hva_ hvn_ hvc_;rw [hva_] at ge498_0;rw [hvc_] at ul498_0;have HL498_0:=aM (show Kd.V (Kd.int .i64) 3 _ w.heap.size _ _ (rd_L1 yb ya) from Kd.V_mk ul498_0 ge498_0);clear hva_ hvn_ hvc_ ge498_0 ul498_0;clear yk ym;have zh:=aM yi;have HC498_0:=aM yh;clear yi yh)|((with_reducible refine gate_builtin (b:=.append) (xs:=#[.tmp 31,.tmp 35]) rfl ?_);at_builtin;refine Kd.R_append_rows (Kd.int .i64) (w0:=w) w.heap.size rfl (.tmp 31) (.tmp 35) 22 3 (.int .i64 0) 8 rfl Try.underlying22 info3 rfl (by decide) (by omega) v496 zf (rd_L1 yb ya) _ _ _ (fun k_=>(w.heap.size≤k_)) (fun _=>False) rfl rfl ?aO ?aR (fun _ _ h=>h) (fun _ h=>h.elim) ?aF ?aB ?aS ?aL ?_;(case aR=>repeat(first|exact(by repeat(first|(with_reducible exact zh.out)|(with_reducible refine Kd.C_alloc ?_ _)|(with_reducible refine Kd.C_drewN ?_ _)|(with_reducible refine Kd.C_drew ?_)|exact zh.out))|(with_reducible refine Kd.C_alloc ?_ _)|(with_reducible refine Kd.C_drewN ?_ _)|(with_reducible refine Kd.C_drew ?_)));(case aB=>exact(qB HB));(case aF=>exact(fun k_ hk=>(Nat.le_trans (below_size (qB HB)) hk)));(case aO=>exact(by(with_reducible repeat(first|apply rA|apply rN|apply rD));exact Kd.R_mono zw.out (fun _ hk=>hk.1)));(case aS=>exact(below_size (qB HB)));(case aL=>have:=LMc17.out;omega);intro v500 w22 ho hb hg hat;rw [← Ny499.out] at ho;replace za:=aM (Kd.N_afterv (ok:=(fun k_=>(w.heap.size≤k_)∧some k_≠(u5:Value).ownBlock)) (by(with_reducible repeat(first|apply Kd.N_alloc|apply Kd.N_drewN|apply Kd.N_drew));exact za.out) hg hat);replace zb:=aM (Kd.N_afterv (ok:=(fun k_=>(w.heap.size≤k_)∧some k_≠(.slice (some ye) yb.length zc:Value).ownBlock)) (by(with_reducible repeat(first|apply Kd.N_alloc|apply Kd.N_drewN|apply Kd.N_drew));exact zb.out) hg hat);replace HL498_0:=aM (Kd.V_afterv (ok:=(fun k_=>(w.heap.size≤k_)∧some k_≠(.slice (some ye) yb.length zc:Value).ownBlock∧some k_≠(u5:Value).ownBlock)) (by(with_reducible repeat(first|apply Kd.V_alloc|apply Kd.V_drewN|apply Kd.V_drew));exact Kd.V_mono HL498_0.out (fun _ hk=>⟨⟨hk.1.1.1,⟨hk.2,hk.1.1.2⟩⟩,hk.1.2⟩)) hg hat);replace HB:=aM (hb);have zx:=aM (ho);clear zw;clear ho hb hg hat)|((with_reducible refine gate_builtin (b:=.append) (xs:=#[.tmp 36,.tmp 38]) rfl ?_);at_builtin;refine Kd.R_append (Kd.int .i64) (w0:=w) w.heap.size rfl (.tmp 36) (.tmp 38) 22 3 (.int .i64 0) 8 rfl Try.underlying22 info3 rfl (by decide) (by omega) v500 zd yd [.int .i64 yd] (fun k_=>(w.heap.size≤k_)) (fun _=>False) rfl rfl ?aP (fun _ hk=>hk.elim) ?aF ?aO ?aB ?aS ?aL ?_;(case aP=>exact rfl);(case aB=>exact(qB HB));(case aF=>exact(fun k_ hk=>(Nat.le_trans (below_size (qB HB)) hk)));(case aO=>exact(pR zx.out));(case aS=>exact(below_size (qB HB)));(case aL=>have:=LMc18.out;omega);intro v503 w23 ho hb hg hat;rw [← Ny502.out] at ho;replace za:=aM (Kd.N_afterv (ok:=(fun k_=>(w.heap.size≤k_)∧some k_≠(u5:Value).ownBlock)) (by(with_reducible repeat(first|apply Kd.N_alloc|apply Kd.N_drewN|apply Kd.N_drew));exact za.out) hg hat);replace zb:=aM (Kd.N_afterv (ok:=(fun k_=>(w.heap.size≤k_)∧some k_≠(.slice (some ye) yb.length zc:Value).ownBlock)) (by(with_reducible repeat(first|apply Kd.N_alloc|apply Kd.N_drewN|apply Kd.N_drew));exact zb.out) hg hat);replace HL498_0:=aM (Kd.V_afterv (ok:=(fun k_=>(w.heap.size≤k_)∧some k_≠(.slice (some ye) yb.length zc:Value).ownBlock∧some k_≠(u5:Value).ownBlock)) (pV HL498_0.out) hg hat);replace HB:=aM (hb);have zi:=aM (ho);clear zx;clear ho hb hg hat;obtain⟨zy,zz,yx⟩:=Kd.R_slice zi.out;subst yx)|((with_reducible refine gate_builtin (b:=.append) (xs:=#[.tmp 30,.tmp 40]) rfl ?_);at_builtin;refine Kd.N_append (Kd.slice 3 (Kd.int .i64)) (w0:=w) w.heap.size rfl (.tmp 30) (.tmp 40) 25 22 (.slice none 0 0) 24 rfl Try.underlying25 info22 rfl (by decide) (by omega) u5 yf zk [.slice zy zk.length zz] (fun k_=>(w.heap.size≤k_)∧some k_≠(.slice (some ye) yb.length zc:Value).ownBlock) (fun k_=>((fun k_=>(w.heap.size≤k_)∧some k_≠(.slice (some ye) yb.length zc:Value).ownBlock)) k_∧some k_≠(u5:Value).ownBlock) rfl rfl ?aP (fun _ hk=>hk) ?aF ?aO ?aB ?aS ?aL ?_;(case aP=>exact(Kd.FK_slice_mk (Kd.R_reads' (Kd.R_mono (ok':=(fun k_=>((fun k_=>(w.heap.size≤k_)∧some k_≠(.slice (some ye) yb.length zc:Value).ownBlock)) k_∧some k_≠(u5:Value).ownBlock)) (Kd.R_apart' (Kd.R_apart' (zi.out) (Kd.N_typed za.out) (by decide)) (Kd.N_typed zb.out) (by decide)) (fun k_ hk=>⟨⟨hk.1.1,hk.1.2⟩,hk.2⟩))).2.1 (Kd.R_F (Kd.R_mono (ok':=(fun k_=>((fun k_=>(w.heap.size≤k_)∧some k_≠(.slice (some ye) yb.length zc:Value).ownBlock)) k_∧some k_≠(u5:Value).ownBlock)) (Kd.R_apart' (Kd.R_apart' (zi.out) (Kd.N_typed za.out) (by decide)) (Kd.N_typed zb.out) (by decide)) (fun k_ hk=>⟨⟨hk.1.1,hk.1.2⟩,hk.2⟩)))));(case aB=>exact(qB HB));(case aF=>exact(fun k_ hk=>⟨(Nat.le_trans (below_size (qB HB)) hk),Kd.fresh' (Kd.N_lt (by(with_reducible repeat(first|apply Kd.N_alloc|apply Kd.N_drewN|apply Kd.N_drew));exact za.out)) k_ hk⟩));(case aO=>exact(by(with_reducible repeat(first|apply Kd.N_alloc|apply Kd.N_drewN|apply Kd.N_drew));exact Kd.N_mono zb.out (fun _ hk=>⟨hk.1.1,hk.1.2⟩)));(case aS=>exact(below_size (qB HB)));(case aL=>have:=LMc19.out;omega);intro v506 w24 ho hb hg hat;rw [← Ny505.out] at ho;replace za:=aM (Kd.N_afterv (ok:=(fun k_=>(w.heap.size≤k_)∧some k_≠(.slice zy zk.length zz:Value).ownBlock)) (by(with_reducible repeat(first|apply Kd.N_alloc|apply Kd.N_drewN|apply Kd.N_drew));exact Kd.N_mono za.out (fun _ hk=>⟨⟨hk.1.1,hk.2⟩,hk.1.2⟩)) hg hat);replace HL498_0:=aM (Kd.V_afterv (ok:=(fun k_=>(w.heap.size≤k_)∧some k_≠(.slice (some ye) yb.length zc:Value).ownBlock∧some k_≠(.slice zy zk.length zz:Value).ownBlock)) (by(with_reducible repeat(first|apply Kd.V_alloc|apply Kd.V_drewN|apply Kd.V_drew));exact Kd.V_mono HL498_0.out (fun _ hk=>⟨⟨hk.1.1,⟨hk.1.2.1,hk.2⟩⟩,hk.1.2.2⟩)) hg hat);replace HB:=aM (hb);have HO507:=aM (ho);clear zb zi;clear ho hb hg hat))
 go_roundg k3
 case measure=>have:=HK1.out;have:=HK2.out;have:=HK3.out;omega
 case rel=>exact⟨(z4),(wrap64 (yd + 1)),(pF),H',⟨by have:=HK1.out;have:=HK2.out;have:=HK3.out;omega⟩,⟨by(with_reducible repeat(first|apply Kd.N_alloc|apply Kd.N_drewN|apply Kd.N_drew));exact Kd.N_mono za.out (fun _ hk=>⟨hk.1.1,hk.2⟩)⟩,⟨by(with_reducible repeat(first|apply Kd.N_alloc|apply Kd.N_drewN|apply Kd.N_drew));exact HO507.out⟩,⟨qB HB⟩⟩
def fak.l0:Nat→List Int→List Int→Int→Int→Option (Bool)
 | 0,_,_,_,_=>none
 | k + 1,x0,x1,x12,x13=>if x13 < x12 then(if 0≤x13 then(if x13 < (x0.length:Int)then(if x13 < (x1.length:Int)then(if(rd x0 x13)=(rd x1 x13)then(fak.l0 k x0 x1 x12 (wrap64 (x13 + 1)))else(some false))else(none))else(none))else(none))else(some true)
def fak.f (k:Nat) (l0:List Int) (l1:List Int):Option (Bool):=if(l0.length:Int)=(l1.length:Int)then(fak.l0 k l0 l1 (l0.length:Int) 0)else(some false)
theorem fak.calls (k:Nat)(A0:Option Addr)(c0:Nat)(l0:List Int)(A1:Option Addr)(c1:Nat)(l1:List Int)(r:Bool)(w:World)(hr0:Kd.C (Kd.int .i64) w A0 l0.length l0)(hc0:l0.length≤c0)(hr1:Kd.C (Kd.int .i64) w A1 l1.length l1)(hc1:l1.length≤c1)(h:fak.f k l0 l1=some r) :
  Calls Try.prog 82 #[.slice A0 l0.length c0,.slice A1 l1.length c1] w fun e w'=>e=.returned (.bool r)∧Drawn0 w w':=by
 have HR0:=aM hr0
 have HC0:=aM hc0
 clear hr0 hc0
 have HR1:=aM hr1
 have HC1:=aM hc1
 clear hr1 hc1
 have H:(if(l0.length:Int)=(l1.length:Int)then(fak.l0 k l0 l1 (l0.length:Int) 0)else(some false))=some r:=h
 clear h
 by_cases c3:(l0.length:Int)=(l1.length:Int)
 rotate_left
 ·rw [iN c3] at H
  have za:=bF c3
  have zb:=nT c3
  have zc:(l0.length == l1.length)=false:=by first|simpa using c3|(simp at c3 ⊢;omega)
  obtain rfl:=Option.some.inj H
  go_enter Try.func82,Try.ntmps82
  go_wp2
  repeat(go_quiet (fail);try go_wp2)
  go_ret
  exact⟨pF,by repeat(first|exact Drawn0.refl _|apply Drawn0.step)⟩
 rw [ip c3] at H
 have za:=bT c3
 have zb:=nF c3
 have zc:(l0.length == l1.length)=true:=by first|simpa using c3|(simp at c3 ⊢;omega)
 clear c3
 have H':=aM H
 clear H
 go_enter Try.func82,Try.ntmps82
 go_wp2
 repeat(go_quiet (fail);try go_wp2)
 go_loopg [13] k (fun kq v13 w'=>∃ (ya:Int),v13=.int .i64 ya∧Aside0 (fak.l0 kq l0 l1 (l0.length:Int) ya=some r)∧Aside0 (kq≤k)∧Drawn0 w w')
 case atStart=>exact⟨(0),(pF),H',⟨Nat.le_refl _⟩,by repeat(first|exact Drawn0.refl _|apply Drawn0.step)⟩
 clear H'
 try clear c1
 try clear za
 try clear zb
 try clear zc
 obtain⟨ya,rfl,HA,HK1,⟨m1,rfl⟩⟩:=hrel
 cases gk with
 | zero=>exact absurd HA.out (by simp [fak.l0])
 | succ k1=>?_
 have H:=HA.out
 clear HA
 simp only [fak.l0] at H
 by_cases c4:ya < (l0.length:Int)
 rotate_left
 ·rw [iN c4] at H
  have yf:=dF c4
  clear c4
  obtain rfl:=Option.some.inj H
  go_wp2
  repeat(go_quiet (fail);try go_wp2)
  go_ret
  exact⟨pF,by repeat(first|exact Drawn0.refl _|apply Drawn0.step)⟩
 rw [ip c4] at H
 have yf:=dT c4
 clear c4
 by_cases c5:0≤ya
 rotate_left
 ·rw [iN c5] at H
  cases H
 rw [ip c5] at H
 have c5b0:=dT c5
 clear c5
 by_cases c6:ya < (l0.length:Int)
 rotate_left
 ·rw [iN c6] at H
  cases H
 rw [ip c6] at H
 have c6b0:=dT c6
 clear c6
 by_cases c7:ya < (l1.length:Int)
 rotate_left
 ·rw [iN c7] at H
  cases H
 rw [ip c7] at H
 have c7b0:=dT c7
 clear c7
 by_cases c8:(rd l0 ya)=(rd l1 ya)
 rotate_left
 ·rw [iN c8] at H
  have yg:=bF c8
  have yh:=nT c8
  obtain rfl:=Option.some.inj H
  obtain⟨yd,⟨⟩,yb,yi,yj⟩:=zI HR0.out ya
  obtain⟨ye,⟨⟩,yc,yk,yl⟩:=zI HR1.out ya
  go_wp2
  repeat(go_quiet (fail);try go_wp2)
  go_ret
  exact⟨pF,by repeat(first|exact Drawn0.refl _|apply Drawn0.step)⟩
 rw [ip c8] at H
 have yg:=bT c8
 have yh:=nF c8
 clear c8
 have H':=aM H
 clear H
 obtain⟨yd,⟨⟩,yb,yi,yj⟩:=zI HR0.out ya
 obtain⟨ye,⟨⟩,yc,yk,yl⟩:=zI HR1.out ya
 go_wp2
 repeat(go_quiet (fail);try go_wp2)
 go_roundg k1
 case measure=>have:=HK1.out;omega
 case rel=>exact⟨(wrap64 (ya + 1)),(pF),H',⟨pO1 HK1⟩,by repeat(first|exact Drawn0.refl _|apply Drawn0.step)⟩
def fan.l0:Nat→List Int→List (List Int)→Int→Int→Option (Int)
 | 0,_,_,_,_=>none
 | k + 1,x1,x5,x10,x11=>if x11 < x10 then(if 0≤x11 then(if x11 < (x5.length:Int)then((fak.f k (rd_L1 x5 x11) x1).bind fun zf=>(if zf=true then(some x11)else(fan.l0 k x1 x5 x10 (wrap64 (x11 + 1)))))else(none))else(none))else(some (-1))
def fan.f (k:Nat) (l0:List Int) (l1:List Int):Option (Int):=(fam.f k l0).bind fun za=>(fan.l0 k l1 za (za.length:Int) 0)
theorem fan.calls (k:Nat)(A0:Option Addr)(c0:Nat)(l0:List Int)(A1:Option Addr)(c1:Nat)(l1:List Int) (r:Int)(w:World)(hr0:Kd.C (Kd.int .i64) w A0 l0.length l0)(hc0:l0.length≤c0)(hr1:Kd.C (Kd.int .i64) w A1 l1.length l1)(hc1:l1.length≤c1)(h:fan.f k l0 l1=some r) :
  Calls Try.prog 64 #[.slice A0 l0.length c0,.slice A1 l1.length c1] w fun e w'=>e=.returned (.int .i64 r)∧Below w.heap.size w w':=by
 have HR0:=aM hr0
 have HC0:=aM hc0
 clear hr0 hc0
 have HR1:=aM hr1
 have HC1:=aM hc1
 clear hr1 hc1
 have HB:=aM (Below.refl w.heap.size w)
 have H:((fam.f k l0).bind fun za=>(fan.l0 k l1 za (za.length:Int) 0))=some r:=h
 clear h
 replace H:=oB H
 obtain⟨za,A30,H⟩:=H
 try dsimp only at H
 have A3:=aM A30
 clear A30
 have H':=aM H
 clear H
 go_enter Try.func64,Try.ntmps64
 go_wp2_with (first|((with_reducible refine gC 48 rfl ?_);refine gL 8 Try.func48 #[.slice A0 l0.length c0] ?_;(with_reducible refine(fam.calls k _ _ l0 za _ ?s1 HC0.out A3.out).mono ?_);(case s1=>exact pC HR0.out);rintro e w4 ⟨v520,rfl,ho0,hb⟩;refine⟨_,rfl,?_⟩;have ze:=aM (Kd.N_lower (Kd.N_mono (ok':=fun k_=>True) ho0 (fun k_ hk_=>trivial)) (below_size (qB HB)));replace HB:=bS (qB HB) hb;(try clear hb);(try clear hk);(try clear hi);(try clear ho0);obtain⟨Ao5,co5,eo5⟩:=Kd.N_slice ze.out;subst eo5))
 go_loopg [11] k (fun kq v11 w'=>∃ (ya:Int),v11=.int .i64 ya∧Aside0 (fan.l0 kq l1 za (za.length:Int) ya=some r)∧Aside0 (kq≤k)∧Aside0 (Kd.N (Kd.slice 3 (Kd.int .i64)) 22 w' w.heap.size (fun _=>True) (.slice Ao5 za.length co5) za)∧Aside0 (Below w.heap.size w w'))
 case atStart=>exact⟨(0),(pF),H',⟨Nat.le_refl _⟩,⟨by(with_reducible repeat(first|apply Kd.N_alloc|apply Kd.N_drewN|apply Kd.N_drew));exact ze.out⟩,⟨qB HB⟩⟩
 clear H'
 try clear c1
 obtain⟨ya,rfl,HA,HK1,zd,HB⟩:=hrel
 cases gk with
 | zero=>exact absurd HA.out (by simp [fan.l0])
 | succ k1=>?_
 have H:=HA.out
 clear HA
 simp only [fan.l0] at H
 by_cases c6:ya < (za.length:Int)
 rotate_left
 ·rw [iN c6] at H
  have yo:=dF c6
  clear c6
  obtain rfl:=Option.some.inj H
  go_wp2
  go_ret
  exact⟨pE,qB HB⟩
 rw [ip c6] at H
 have yo:=dT c6
 clear c6
 by_cases c7:0≤ya
 rotate_left
 ·rw [iN c7] at H
  cases H
 rw [ip c7] at H
 have c7b0:=dT c7
 clear c7
 by_cases c8:ya < (za.length:Int)
 rotate_left
 ·rw [iN c8] at H
  cases H
 rw [ip c8] at H
 have c8b0:=dT c8
 clear c8
 replace H:=oB H
 obtain⟨zf,A90,H⟩:=H
 try dsimp only at H
 have A9:=aM A90
 clear A90
 by_cases c10:zf=true
 ·subst c10
  rw [ip rfl] at H
  obtain rfl:=Option.some.inj H
  have yj:0≤(ya:Int):=oD
  have yk:ya < (za.length:Int):=oD
  obtain⟨ym,yf,yg,yl,ye,yb,yc⟩:=at_L1 (Kd.N_reads' zd.out).2.2 ya yj yk
  cases yl
  obtain⟨yn,yh,yi,yd⟩:=Kd.N_get zd.out [] ya yj (by first|exact yk|exact of_decide_eq_true pD|(have e_:=(Kd.N_reads' zd.out).1;omega))
  obtain⟨ua522_0,uc522_0,rfl,ul522_0,ge522_0⟩:=Kd.FK_slice_open yi
  have hv522_0:=yd 0 _ rfl
  rw [Nat.add_zero,show ((Kd.slice 3 (Kd.int .i64))).sz=1 from rfl,Nat.mul_one] at hv522_0
  replace hv522_0:=Option.some.inj (hv522_0.symm.trans ye)
  injection hv522_0 with hva_ hvn_ hvc_
  rw [hva_] at ge522_0
  rw [hvc_] at ul522_0
  have HL522_0:=aM (show Kd.V (Kd.int .i64) 3 _ w.heap.size _ _ (rd_L1 za ya) from Kd.V_mk ul522_0 ge522_0)
  clear hva_ hvn_ hvc_ ge522_0 ul522_0
  clear yd yh
  have zb:=aM yc
  have zc:=aM yb
  clear yc yb
  go_wp2_with (first|((with_reducible refine gC 82 rfl ?_);refine gL 19 Try.func82 #[.slice yf (rd_L1 za ya).length yg,.slice A1 l1.length c1] ?_;(with_reducible refine(fak.calls k1 _ _ (rd_L1 za ya) _ _ l1 true _ ?s1 zc.out ?s3 HC1.out A9.out).mono ?_);(case s1=>repeat(first|exact(by repeat(first|(with_reducible exact zb.out)|(with_reducible refine Kd.C_alloc ?_ _)|(with_reducible refine Kd.C_drewN ?_ _)|(with_reducible refine Kd.C_drew ?_)|exact zb.out))|(with_reducible refine Kd.C_alloc ?_ _)|(with_reducible refine Kd.C_drewN ?_ _)|(with_reducible refine Kd.C_drew ?_)));(case s3=>exact sC HR1 HB);rintro e w' ⟨rfl,⟨nd,rfl⟩⟩;refine⟨_,rfl,?_⟩))
  go_ret
  exact⟨pE,qB HB⟩
 replace c10:=Bool.eq_false_iff.mpr c10
 subst c10
 rw [iN (show ¬ (false=true) by decide)] at H
 have H':=aM H
 clear H
 have yj:0≤(ya:Int):=oD
 have yk:ya < (za.length:Int):=oD
 obtain⟨ym,yf,yg,yl,ye,yb,yc⟩:=at_L1 (Kd.N_reads' zd.out).2.2 ya yj yk
 cases yl
 obtain⟨yn,yh,yi,yd⟩:=Kd.N_get zd.out [] ya yj (by first|exact yk|exact of_decide_eq_true pD|(have e_:=(Kd.N_reads' zd.out).1;omega))
 obtain⟨ua522_0,uc522_0,rfl,ul522_0,ge522_0⟩:=Kd.FK_slice_open yi
 have hv522_0:=yd 0 _ rfl
 rw [Nat.add_zero,show ((Kd.slice 3 (Kd.int .i64))).sz=1 from rfl,Nat.mul_one] at hv522_0
 replace hv522_0:=Option.some.inj (hv522_0.symm.trans ye)
 injection hv522_0 with hva_ hvn_ hvc_
 rw [hva_] at ge522_0
 rw [hvc_] at ul522_0
 have HL522_0:=aM (show Kd.V (Kd.int .i64) 3 _ w.heap.size _ _ (rd_L1 za ya) from Kd.V_mk ul522_0 ge522_0)
 clear hva_ hvn_ hvc_ ge522_0 ul522_0
 clear yd yh
 have zb:=aM yc
 have zc:=aM yb
 clear yc yb
 go_wp2_with (first|((with_reducible refine gC 82 rfl ?_);refine gL 19 Try.func82 #[.slice yf (rd_L1 za ya).length yg,.slice A1 l1.length c1] ?_;(with_reducible refine(fak.calls k1 _ _ (rd_L1 za ya) _ _ l1 false _ ?s1 zc.out ?s3 HC1.out A9.out).mono ?_);(case s1=>repeat(first|exact(by repeat(first|(with_reducible exact zb.out)|(with_reducible refine Kd.C_alloc ?_ _)|(with_reducible refine Kd.C_drewN ?_ _)|(with_reducible refine Kd.C_drew ?_)|exact zb.out))|(with_reducible refine Kd.C_alloc ?_ _)|(with_reducible refine Kd.C_drewN ?_ _)|(with_reducible refine Kd.C_drew ?_)));(case s3=>exact sC HR1 HB);rintro e w' ⟨rfl,⟨nd,rfl⟩⟩;refine⟨_,rfl,?_⟩))
 go_roundg k1
 case measure=>have:=HK1.out;omega
 case rel=>exact⟨(wrap64 (ya + 1)),(pF),H',⟨pO1 HK1⟩,⟨by(with_reducible repeat(first|apply Kd.N_alloc|apply Kd.N_drewN|apply Kd.N_drew));exact zd.out⟩,⟨qB HB⟩⟩
mutual
def fbc.j0:Nat→List Int→List Int→Int→Bool→Option (List Int×List Int×List Int×Int)
 | 0,_,_,_,_=>none
 | k + 1,x0,x1,x2,x22=>if x22=true then(some (([]:List Int),([]:List Int),([]:List Int),10))else(if(x0.length:Int)=(x1.length:Int)then(fbc.l0 k x0 x1 x2 (x0.length:Int) 0)else(some (([]:List Int),([]:List Int),([]:List Int),8)))
def fbc.l0:Nat→List Int→List Int→Int→Int→Int→Option (List Int×List Int×List Int×Int)
 | 0,_,_,_,_,_=>none
 | k + 1,x0,x1,x2,x31,x32=>if x32 < x31 then(if x32=x2 then(fbc.l0 k x0 x1 x2 x31 (wrap64 (x32 + 1)))else(if 0≤x32 then(if x32 < (x0.length:Int)then(if x32 < (x1.length:Int)then(if(rd x0 x32)=(rd x1 x32)then(fbc.l0 k x0 x1 x2 x31 (wrap64 (x32 + 1)))else(some (([]:List Int),([]:List Int),([]:List Int),8)))else(none))else(none))else(none)))else(if 0≤x2 then(if x2 < (x0.length:Int)then(if x2 < (x1.length:Int)then((fal.f k x0 x2 (wrap64 ((rd x0 x2) + (rd x1 x2)))).bind fun bt556=>(if bt556.2=0 then((fam.f k bt556.1).bind fun zn=>(fbc.l1 k x0 x1 x2 zn (zn.length:Int) 0 bt556.1 ([]:List Int) ([]:List Int)))else(some (([]:List Int),([]:List Int),([]:List Int),bt556.2))))else(none))else(none))else(none))
def fbc.l1:Nat→List Int→List Int→Int→List (List Int)→Int→Int→List Int→List Int→List Int→Option (List Int×List Int×List Int×Int)
 | 0,_,_,_,_,_,_,_,_,_=>none
 | k + 1,x0,x1,x2,x12,x75,x76,zab,z3,z4=>if x76 < x75 then((some (([]:List Int):List Int)).bind fun zac=>(if 0≤x76 then(if x76 < (x12.length:Int)then(if zac.length + (rd_L1 x12 x76).length < 17592186044416 then((some (zac ++ (rd_L1 x12 x76):List Int)).bind fun zh=>(if 0≤x2 then(if x2 < (zh.length:Int)then(if x2 < (x0.length:Int)then(if(rd zh x2) < (rd x0 x2)then(if z3.length < 17592186044416 then((fan.f k x0 zh).bind fun z9=>(if z4.length < 17592186044416 then(fbc.l1 k x0 x1 x2 x12 x75 (wrap64 (x76 + 1)) zab (z3 ++ [0]) (z4 ++ [z9]))else(none)))else(none))else(if z3.length < 17592186044416 then((fan.f k x1 (zh.set (x2:Int).toNat (wrap64 ((rd zh x2) - (rd x0 x2))))).bind fun z5=>(if z4.length < 17592186044416 then(fbc.l1 k x0 x1 x2 x12 x75 (wrap64 (x76 + 1)) zab (z3 ++ [1]) (z4 ++ [z5]))else(none)))else(none)))else(none))else(none))else(none)))else(none))else(none))else(none)))else(some (zab,z3,z4,0))
end
def fbc.f (k:Nat) (l0:List Int) (l1:List Int) (a2:Int):Option (List Int×List Int×List Int×Int):=if a2 < 0 then(fbc.j0 k l0 l1 a2 true)else(fbc.j0 k l0 l1 a2 (decide (a2 ≥ (l0.length:Int))))
def fbc.T8:TT:=(true,[([],[]),([],[]),([0,1],[0,1]),([2],[2]),([3],[3]),([3],[3]),([4,5,3],[3,4,5]),([6,3],[3,6]),([3],[3]),([3],[3]),([8,9,3],[3,8,9]),([10,3],[3,10]),([7,11,3],[3,7,11]),([3,12],[3,12])])
def fbc.B8:List Nat:=[0,0,3,7,15,15,63,127,15,15,783,1807,4095,8191]
theorem fbc.tab8:rtab .any (opsOf Try.f37 8)=fbc.T8:=by kernel_rfl
theorem fbc.bits8:waitsOk fbc.T8.2 fbc.B8=true:=by kernel_rfl
def fbc.T11:TT:=(true,[([],[]),([],[]),([],[]),([],[]),([2,3],[2,3]),([4],[4]),([],[]),([],[]),([6,7],[6,7]),([8],[8]),([5,9],[5,9]),([0,1,10],[0,1,10]),([11],[11]),([12],[12]),([12],[12]),([13,11,0,1,2,3,4,5,6,7,8,9,10,11,12,13],[13]),([14,15,0,1,2,3,4,5,6,7,8,9,10,11,12,13,14,15],[14])])
def fbc.B11:List Nat:=[0,0,0,0,12,28,0,0,192,448,1020,2047,4095,8191,8191,16383,65535]
theorem fbc.tab11:rtab .any (opsOf Try.f37 11)=fbc.T11:=by kernel_rfl
theorem fbc.bits11:waitsOk fbc.T11.2 fbc.B11=true:=by kernel_rfl
def fbc.T20:TT:=(true,[([],[]),([],[]),([0,1],[0,1]),([2],[2]),([],[]),([],[]),([4,5],[4,5]),([6],[6]),([3,7],[3,7])])
def fbc.B20:List Nat:=[0,0,3,7,0,0,48,112,255]
theorem fbc.tab20:rtab .any (opsOf Try.f37 20)=fbc.T20:=by kernel_rfl
theorem fbc.bits20:waitsOk fbc.T20.2 fbc.B20=true:=by kernel_rfl
def fbc.T22:TT:=(true,[([],[]),([0],[0]),([],[]),([],[]),([2,3],[2,3]),([4],[4]),([1,5,4],[1,5]),([0,1,2,3,4,5,6],[]),([7,6,6,0,1,2,3,4,5,6],[6,7])])
def fbc.B22:List Nat:=[0,1,0,0,12,28,63,127,255]
theorem fbc.tab22:rtab .any (opsOf Try.f37 22)=fbc.T22:=by kernel_rfl
theorem fbc.bits22:waitsOk fbc.T22.2 fbc.B22=true:=by kernel_rfl
def fbc.T23:TT:=(true,[([],[]),([],[]),([],[]),([],[]),([2,3],[2,3]),([4],[4]),([],[]),([],[]),([6,7],[6,7]),([8],[8]),([5,9],[5,9]),([0,1,0,1,2,3,4,5,6,7,8,9,10],[0,1]),([11,10,0,1,2,3,4,5,6,7,8,9,10],[10,11])])
def fbc.B23:List Nat:=[0,0,0,0,12,28,0,0,192,448,1020,2047,4095]
theorem fbc.tab23:rtab .any (opsOf Try.f37 23)=fbc.T23:=by kernel_rfl
theorem fbc.bits23:waitsOk fbc.T23.2 fbc.B23=true:=by kernel_rfl
def fbc.T25:TT:=(true,[([],[]),([0],[0]),([],[]),([],[]),([2,3],[2,3]),([4],[4]),([1,5,4],[1,5]),([0,1,2,3,4,5,6],[]),([7,6,6,0,1,2,3,4,5,6],[6,7])])
def fbc.B25:List Nat:=[0,1,0,0,12,28,63,127,255]
theorem fbc.tab25:rtab .any (opsOf Try.f37 25)=fbc.T25:=by kernel_rfl
theorem fbc.bits25:waitsOk fbc.T25.2 fbc.B25=true:=by kernel_rfl
theorem fbc.calls (k:Nat)(A0:Option Addr)(c0:Nat)(l0:List Int)(A1:Option Addr)(c1:Nat)(l1:List Int) (a2:Int)(r1:List Int)(r2:List Int)(r3:List Int) (r4:Int)(w:World)(hr0:Kd.C (Kd.int .i64) w A0 l0.length l0)(hc0:l0.length≤c0)(hr1:Kd.C (Kd.int .i64) w A1 l1.length l1)(hc1:l1.length≤c1)(h:fbc.f k l0 l1 a2=some (r1,r2,r3,r4)) :
  Calls Try.prog 37 #[.slice A0 l0.length c0,.slice A1 l1.length c1,.int .i64 a2] w fun e w'=>∃ v0_ v1_ v2_:Value,e=.returned (.tuple #[.agg #[v0_,v1_,v2_],.int .i64 r4])∧Kd.R (Kd.int .i64) 3 w' w.heap.size (fun k_=>some k_≠(v1_:Value).ownBlock∧some k_≠(v2_:Value).ownBlock) v0_ r1∧Kd.R (Kd.int .i64) 3 w' w.heap.size (fun k_=>some k_≠(v0_:Value).ownBlock∧some k_≠(v2_:Value).ownBlock) v1_ r2∧Kd.R (Kd.int .i64) 3 w' w.heap.size (fun k_=>some k_≠(v0_:Value).ownBlock∧some k_≠(v1_:Value).ownBlock) v2_ r3∧Below w.heap.size w w':=by
 have hu32:=Try.underlying32
 have HR0:=aM hr0
 have HC0:=aM hc0
 clear hr0 hc0
 have HR1:=aM hr1
 have HC1:=aM hc1
 clear hr1 hc1
 have HB:=aM (Below.refl w.heap.size w)
 have H:(if a2 < 0 then(fbc.j0 k l0 l1 a2 true)else(fbc.j0 k l0 l1 a2 (decide (a2 ≥ (l0.length:Int)))))=some (r1,r2,r3,r4):=h
 clear h
 have HC4:=aM H
 clear H
 go_enter Try.func37,Try.ntmps37
 go_upto_region 1 with(first|((with_reducible refine gD 6 rfl ?_);(try (refine gate_guard (by rfl) ?_;dsimp only));refine bX 6 32 #[.slice none 0 0,.slice none 0 0,.slice none 0 0] ?_;intro zo hg w5 hbox hb;have zc:=aM (hbox);have GW551:=gE (w:=w) hg (qB HB);have zm:=GW551;replace HB:=bS (qB HB) hb;clear hb hbox hg))
 (try simp only [Act.put,sP])
 go_cut [22] (fun v22 wc=>∃ (kq:Nat) (y1:Bool),v22=.bool y1∧Aside0 (fbc.j0 kq l0 l1 a2 y1=some (r1,r2,r3,r4))∧Aside0 (kq≤k)∧Aside0 (wc.heap[zo]?=some (.cells #[(.slice none 0 0),(.slice none 0 0),(.slice none 0 0)] 32 (0,0)))∧Aside0 (Below w.heap.size w wc))
 case first =>
  have H:=HC4.out
  clear HC4
  by_cases c6:a2 < 0
  ·rw [ip c6] at H
   have zaj:=dT c6
   clear c6
   (first|rw [zaj]|(simp only [i64_w,i32_w];rw [zaj])|skip)
   have H':=aM H
   clear H
   go_wp2
   go_meet
   case rel=>exact⟨_,(true),(pF),H',⟨pO⟩,⟨pK zc.out⟩,⟨qB1 HB zm⟩⟩
  rw [iN c6] at H
  have zaj:=dF c6
  clear c6
  (first|rw [zaj]|(simp only [i64_w,i32_w];rw [zaj])|skip)
  have H':=aM H
  clear H
  go_wp2
  go_meet
  case rel=>exact⟨_,(decide (a2 ≥ (l0.length:Int))),(pF),H',⟨pO⟩,⟨pK zc.out⟩,⟨qB1 HB zm⟩⟩
 clear HC4
 try clear c1
 obtain⟨kq,y1,rfl,HA,HJ3,zc,HB⟩:=hcut
 cases kq with
 | zero=>exact absurd HA.out (by simp [fbc.j0])
 | succ kj3=>?_
 have H:=HA.out
 clear HA
 simp only [fbc.j0] at H
 by_cases c7:y1=true
 ·subst c7
  rw [ip rfl] at H
  replace H:=oi4 H
  obtain⟨rfl,rfl,rfl,rfl⟩:=H
  have hcz8:=blk3 zc.out
  go_wp2
  refine bodyPost_ret (results_ct rfl _ _ zo 32 #[.slice none 0 0,.slice none 0 0,.slice none 0 0] (0,0) _ rfl (by exact P3 zc) Try.underlying32 rfl (by kernel_rfl)) rfl ?_
  exact⟨_,_,_,pE,pN,pN,pN,qB1 HB zm⟩
 replace c7:=Bool.eq_false_iff.mpr c7
 subst c7
 rw [iN (show ¬ (false=true) by decide)] at H
 by_cases c9:(l0.length:Int)=(l1.length:Int)
 rotate_left
 ·rw [iN c9] at H
  have za5:=bF c9
  have za6:=nT c9
  have za7:(l0.length == l1.length)=false:=by first|simpa using c9|(simp at c9 ⊢;omega)
  replace H:=oi4 H
  obtain⟨rfl,rfl,rfl,rfl⟩:=H
  have hcz93:=blk3 zc.out
  go_wp2
  refine bodyPost_ret (results_ct rfl _ _ zo 32 #[.slice none 0 0,.slice none 0 0,.slice none 0 0] (0,0) _ rfl (by exact P3 zc) Try.underlying32 rfl (by kernel_rfl)) rfl ?_
  exact⟨_,_,_,pE,pN,pN,pN,qB1 HB zm⟩
 rw [ip c9] at H
 have za5:=bT c9
 have za6:=nF c9
 have za7:(l0.length == l1.length)=true:=by first|simpa using c9|(simp at c9 ⊢;omega)
 clear c9
 have H':=aM H
 clear H
 go_wp2
 go_loopg [32] kj3 (fun kq v32 w'=>∃ (yc:Int),v32=.int .i64 yc∧Aside0 (fbc.l0 kq l0 l1 a2 (l0.length:Int) yc=some (r1,r2,r3,r4))∧Aside0 (kq≤kj3)∧Aside0 (w'.heap[zo]?=some (.cells #[(.slice none 0 0),(.slice none 0 0),(.slice none 0 0)] 32 (0,0)))∧Aside0 (Below w.heap.size w w'))
 case atStart=>exact⟨(0),(pF),H',⟨Nat.le_refl _⟩,⟨pK zc.out⟩,⟨qB1 HB zm⟩⟩
 clear H'
 try clear c7
 try clear za5
 try clear za6
 try clear za7
 obtain⟨yc,rfl,HA,HK2,zc,HB⟩:=hrel
 cases gk with
 | zero=>exact absurd HA.out (by simp [fbc.l0])
 | succ k2=>?_
 have H:=HA.out
 clear HA
 simp only [fbc.l0] at H
 by_cases c10:yc < (l0.length:Int)
 ·rw [ip c10] at H
  have zaw:=dT c10
  clear c10
  by_cases c11:yc=a2
  ·rw [ip c11] at H
   have yad:=bT c11
   have yae:=nF c11
   clear c11
   have H':=aM H
   clear H
   try go_wp2
   replace zc:=aM (blk_drew zc.out)
   replace HB:=aM (below_drew1 HB.out)
   refine sT 14 [] (fun w'=>True) fbc.tab8 fbc.bits8 trivial (fun hHeld HT_ HW_=>?_)
   generalize wr.drew=w12 at zc HB hHeld ⊢
   refine pQ 0 35 14 1 HT_ ?_
   refine pQ 1 36 14 3 HT_ ?_
   refine pQ 2 37 14 7 HT_ ?_
   refine pQ 3 38 14 15 HT_ ?_
   refine pX 4 39 14 31 HT_ ?_
   refine pX 5 40 14 63 HT_ ?_
   refine pX 6 41 14 127 HT_ ?_
   refine pX 7 42 14 255 HT_ ?_
   refine pX 8 43 14 511 HT_ ?_
   refine pX 9 44 14 1023 HT_ ?_
   refine pX 10 45 14 2047 HT_ ?_
   refine pX 11 46 14 4095 HT_ ?_
   refine pX 12 47 14 8191 HT_ ?_
   refine pQ 13 48 14 16383 HT_ ?_
   refine dN HT_ ?_
   try go_wp2
   go_roundg k2
   case measure=>have:=HJ3.out;have:=HK2.out;omega
   case rel=>exact⟨(wrap64 (yc + 1)),(pF),H',⟨pO2 HJ3 HK2⟩,⟨pK zc.out⟩,⟨qB1 HB zm⟩⟩
  rw [iN c11] at H
  have yad:=bF c11
  have yae:=nT c11
  by_cases c13:0≤yc
  rotate_left
  ·rw [iN c13] at H
   cases H
  rw [ip c13] at H
  have c13b0:=dT c13
  clear c13
  by_cases c14:yc < (l0.length:Int)
  rotate_left
  ·rw [iN c14] at H
   cases H
  rw [ip c14] at H
  have c14b0:=dT c14
  clear c14
  by_cases c15:yc < (l1.length:Int)
  rotate_left
  ·rw [iN c15] at H
   cases H
  rw [ip c15] at H
  have c15b0:=dT c15
  clear c15
  by_cases c16:(rd l0 yc)=(rd l1 yc)
  rotate_left
  ·rw [iN c16] at H
   have yaf:=bF c16
   have yag:=nT c16
   replace H:=oi4 H
   obtain⟨rfl,rfl,rfl,rfl⟩:=H
   try go_wp2
   replace zc:=aM (blk_drew zc.out)
   replace HB:=aM (below_drew1 HB.out)
   obtain⟨y3,⟨⟩,yk,yau,yav⟩:=zI HR0.out yc
   have ys:=zW HB yk
   obtain⟨y4,⟨⟩,yl,yaw,yax⟩:=zI HR1.out yc
   have yt:=zW HB yl
   refine sT 14 [] (fun w'=>w'.cell? (y3.add (yc).toNat)=some (.int .i64 (rd l0 yc))∧w'.cell? (y4.add (yc).toNat)=some (.int .i64 (rd l1 yc))) fbc.tab8 fbc.bits8 ⟨(zW HB yk),(zW HB yl)⟩ (fun hHeld HT_ HW_=>?_)
   generalize wr.drew=w18 at zc HB ys yt hHeld ⊢
   refine pQ 0 35 14 1 HT_ ?_
   refine pQ 1 36 14 3 HT_ ?_
   refine pQ 2 37 14 7 HT_ ?_
   refine pQ 3 38 14 15 HT_ ?_
   refine pQ 4 39 14 31 HT_ ?_
   refine pQ 5 40 14 63 HT_ ?_
   refine pQ 6 41 14 127 HT_ ?_
   refine pQ 8 43 14 383 HT_ ?_
   refine pQ 9 44 14 895 HT_ ?_
   refine pQ 10 45 14 1919 HT_ ?_
   refine pU2 7 42 14 2047 HT_ HW_ hHeld ?_
   refine pU2 11 46 14 4095 HT_ HW_ hHeld ?_
   refine pQ 12 47 14 8191 HT_ ?_
   refine pQ 13 48 14 16383 HT_ ?_
   refine dN HT_ ?_
   have hcz19:=blk3 zc.out
   try go_wp2
   refine bodyPost_ret (results_ct rfl _ _ zo 32 #[.slice none 0 0,.slice none 0 0,.slice none 0 0] (0,0) _ rfl (by exact P3 zc) Try.underlying32 rfl (by kernel_rfl)) rfl ?_
   exact⟨_,_,_,pE,pN,pN,pN,qB1 HB zm⟩
  rw [ip c16] at H
  have yaf:=bT c16
  have yag:=nF c16
  clear c16
  have H':=aM H
  clear H
  try go_wp2
  replace zc:=aM (blk_drew zc.out)
  replace HB:=aM (below_drew1 HB.out)
  obtain⟨y3,⟨⟩,yk,yau,yav⟩:=zI HR0.out yc
  have ys:=zW HB yk
  obtain⟨y4,⟨⟩,yl,yaw,yax⟩:=zI HR1.out yc
  have yt:=zW HB yl
  refine sT 14 [] (fun w'=>w'.cell? (y3.add (yc).toNat)=some (.int .i64 (rd l0 yc))∧w'.cell? (y4.add (yc).toNat)=some (.int .i64 (rd l1 yc))) fbc.tab8 fbc.bits8 ⟨(zW HB yk),(zW HB yl)⟩ (fun hHeld HT_ HW_=>?_)
  generalize wr.drew=w17 at zc HB ys yt hHeld ⊢
  refine pQ 0 35 14 1 HT_ ?_
  refine pQ 1 36 14 3 HT_ ?_
  refine pQ 2 37 14 7 HT_ ?_
  refine pQ 3 38 14 15 HT_ ?_
  refine pQ 4 39 14 31 HT_ ?_
  refine pQ 5 40 14 63 HT_ ?_
  refine pQ 6 41 14 127 HT_ ?_
  refine pQ 8 43 14 383 HT_ ?_
  refine pQ 9 44 14 895 HT_ ?_
  refine pQ 10 45 14 1919 HT_ ?_
  refine pU2 7 42 14 2047 HT_ HW_ hHeld ?_
  refine pU2 11 46 14 4095 HT_ HW_ hHeld ?_
  refine pQ 12 47 14 8191 HT_ ?_
  refine pQ 13 48 14 16383 HT_ ?_
  refine dN HT_ ?_
  try go_wp2
  go_roundg k2
  case measure=>have:=HJ3.out;have:=HK2.out;omega
  case rel=>exact⟨(wrap64 (yc + 1)),(pF),H',⟨pO2 HJ3 HK2⟩,⟨pK zc.out⟩,⟨qB1 HB zm⟩⟩
 rw [iN c10] at H
 have zaw:=dF c10
 clear c10
 by_cases c20:0≤a2
 rotate_left
 ·rw [iN c20] at H
  cases H
 rw [ip c20] at H
 have yah:=dT c20
 clear c20
 by_cases c21:a2 < (l0.length:Int)
 rotate_left
 ·rw [iN c21] at H
  cases H
 rw [ip c21] at H
 have yai:=dT c21
 clear c21
 by_cases c22:a2 < (l1.length:Int)
 rotate_left
 ·rw [iN c22] at H
  cases H
 rw [ip c22] at H
 have yaj:=dT c22
 clear c22
 replace H:=oB H
 obtain⟨⟨zaa,zae⟩,za8,H⟩:=H
 try dsimp only at H
 have A23:=aM za8
 clear za8
 by_cases c24:zae=0
 rotate_left
 ·rw [iN c24] at H
  have zax:=bF c24
  have zay:=nT c24
  replace H:=oi4 H
  obtain⟨rfl,rfl,rfl,rfl⟩:=H
  try go_wp2
  replace zc:=aM (blk_drew zc.out)
  replace HB:=aM (below_drew1 HB.out)
  obtain⟨yj,⟨⟩,yg,yak,yal⟩:=zI HR0.out a2
  have yo:=zW HB yg
  obtain⟨y2,⟨⟩,yh,yam,yan⟩:=zI HR1.out a2
  have yp:=zW HB yh
  refine sT 17 [] (fun w'=>w'.cell? (yj.add (a2).toNat)=some (.int .i64 (rd l0 a2))∧w'.cell? (y2.add (a2).toNat)=some (.int .i64 (rd l1 a2))) fbc.tab11 fbc.bits11 ⟨(zW HB yg),(zW HB yh)⟩ (fun hHeld HT_ HW_=>?_)
  generalize wr.drew=w90 at zc HB yo yp hHeld ⊢
  refine pQ 0 52 17 1 HT_ ?_
  refine pQ 1 53 17 3 HT_ ?_
  refine pQ 2 54 17 7 HT_ ?_
  refine pQ 3 55 17 15 HT_ ?_
  refine pQ 4 56 17 31 HT_ ?_
  refine pQ 6 58 17 95 HT_ ?_
  refine pQ 7 59 17 223 HT_ ?_
  refine pQ 8 60 17 479 HT_ ?_
  refine pU2 5 57 17 511 HT_ HW_ hHeld ?_
  refine pU2 9 61 17 1023 HT_ HW_ hHeld ?_
  refine pQ 10 62 17 2047 HT_ ?_
  refine oN 11 63 17 4095 HT_ (fun K hK=>?_)
  refine gS Try.func63 #[.slice (some yj) l0.length c0,.int .i64 a2,.int .i64 (wrap64 ((rd l0 a2) + (rd l1 a2)))] ?_
  with_reducible refine(fal.calls k2 _ _ l0 a2 (wrap64 ((rd l0 a2) + (rd l1 a2))) zaa zae _ ?s1 ?s2 A23.out).mono ?_
  (case s1=>exact sC HR0 HB)
  (case s2=>exact HC0.out)
  rintro e w91 ⟨v558,rfl,ho0,hb⟩
  refine⟨_,rfl,?_⟩
  have z2:=aM (Kd.R_lower ho0 (below_size (qB1 HB zm)))
  replace zc:=bK zc hb
  replace HB:=bS (qB1 HB zm) hb
  (try clear hb)
  (try clear ho0)
  refine hK.out _ _ ⟨(zW HB yg),(zW HB yh)⟩ (fun hHeld=>?_)
  clear hK K
  refine norm_ (a':=?_) ?_ ?_
  rotate_left
  ·show Act.put _ (some 63) _=_
   simp only [Act.put,sP,i64_w,i32_w]
   rfl
  refine pQ 12 51 17 8191 HT_ ?_
  refine pQ 13 64 17 16383 HT_ ?_
  refine pQ 14 65 17 32767 HT_ ?_
  refine pQ 15 9 17 65535 HT_ ?_
  refine pQ 16 10 17 131071 HT_ ?_
  refine dN HT_ ?_
  have hcz92:=blk3 zc.out
  try go_wp2
  refine bodyPost_ret (results_ct rfl _ _ zo 32 #[.slice none 0 0,.slice none 0 0,.slice none 0 0] (0,0) _ rfl (by exact P3 zc) Try.underlying32 rfl (by kernel_rfl)) rfl ?_
  exact⟨_,_,_,pE,pN,pN,pN,qB1 HB zm⟩
 rw [ip c24] at H
 have zax:=bT c24
 have zay:=nF c24
 clear c24
 replace H:=oB H
 obtain⟨zn,za9,H⟩:=H
 try dsimp only at H
 have A25:=aM za9
 clear za9
 have H':=aM H
 clear H
 try go_wp2
 replace zc:=aM (blk_drew zc.out)
 replace HB:=aM (below_drew1 HB.out)
 obtain⟨yj,⟨⟩,yg,yak,yal⟩:=zI HR0.out a2
 have yo:=zW HB yg
 obtain⟨y2,⟨⟩,yh,yam,yan⟩:=zI HR1.out a2
 have yp:=zW HB yh
 refine sT 17 [] (fun w'=>w'.cell? (yj.add (a2).toNat)=some (.int .i64 (rd l0 a2))∧w'.cell? (y2.add (a2).toNat)=some (.int .i64 (rd l1 a2))) fbc.tab11 fbc.bits11 ⟨(zW HB yg),(zW HB yh)⟩ (fun hHeld HT_ HW_=>?_)
 generalize wr.drew=w26 at zc HB yo yp hHeld ⊢
 refine pQ 0 52 17 1 HT_ ?_
 refine pQ 1 53 17 3 HT_ ?_
 refine pQ 2 54 17 7 HT_ ?_
 refine pQ 3 55 17 15 HT_ ?_
 refine pQ 4 56 17 31 HT_ ?_
 refine pQ 6 58 17 95 HT_ ?_
 refine pQ 7 59 17 223 HT_ ?_
 refine pQ 8 60 17 479 HT_ ?_
 refine pU2 5 57 17 511 HT_ HW_ hHeld ?_
 refine pU2 9 61 17 1023 HT_ HW_ hHeld ?_
 refine pQ 10 62 17 2047 HT_ ?_
 refine oN 11 63 17 4095 HT_ (fun K hK=>?_)
 refine gS Try.func63 #[.slice (some yj) l0.length c0,.int .i64 a2,.int .i64 (wrap64 ((rd l0 a2) + (rd l1 a2)))] ?_
 with_reducible refine(fal.calls k2 _ _ l0 a2 (wrap64 ((rd l0 a2) + (rd l1 a2))) zaa zae _ ?s1 ?s2 A23.out).mono ?_
 (case s1=>exact sC HR0 HB)
 (case s2=>exact HC0.out)
 rintro e w27 ⟨v558,rfl,ho0,hb⟩
 refine⟨_,rfl,?_⟩
 have z2:=aM (Kd.R_lower ho0 (below_size (qB1 HB zm)))
 replace zc:=bK zc hb
 replace HB:=bS (qB1 HB zm) hb
 (try clear hb)
 (try clear ho0)
 refine hK.out _ _ ⟨(zW HB yg),(zW HB yh)⟩ (fun hHeld=>?_)
 clear hK K
 refine norm_ (a':=?_) ?_ ?_
 rotate_left
 ·show Act.put _ (some 63) _=_
  simp only [Act.put,sP,i64_w,i32_w]
  rfl
 refine pQ 12 51 17 8191 HT_ ?_
 refine pQ 13 64 17 16383 HT_ ?_
 refine pQ 14 65 17 32767 HT_ ?_
 refine pQ 15 9 17 65535 HT_ ?_
 refine pQ 16 10 17 131071 HT_ ?_
 refine dN HT_ ?_
 obtain⟨zak,zai,yay⟩:=Kd.R_slice z2.out
 subst yay
 try go_wp2_with (first|((with_reducible refine gD 11 rfl ?_);(try (refine gate_guard (by rfl) ?_;dsimp only));refine bX 11 32 #[.slice none 0 0,.slice none 0 0,.slice none 0 0] ?_;intro ze hg w29 hbox hb;replace z2:=bR z2 hb;have zd:=aM (hbox);have GW560:=gE (w:=w) hg (qB1 HB zm);have zq:=GW560;replace HB:=bS (qB1 HB zm) hb;have zp:=nL hg zc;have zx:=nG hg zc;replace zc:=bK zc hb;clear hb hbox hg;have hnb30:=zx.out;have hnc30:=zp.out;have yao:=blk3 zd.out)|((with_reducible refine gC 48 rfl ?_);refine gL 73 Try.func48 #[.slice zak zaa.length zai] ?_;(with_reducible refine(fam.calls k2 _ _ zaa zn _ ?s1 ?s2 A25.out).mono ?_);(case s1=>refine(Kd.R_reads' (e:=3) (base:=w.heap.size) (ok:=fun k_=>True) (n:=zaa.length) (c:=zai) ?_).2.2;exact(by(with_reducible repeat(first|apply rA|apply rN|apply rD));exact(F3 z2 zd (fun _ h_=>h_.1))));(case s2=>exact sL z2);rintro e w32 ⟨v562,rfl,ho0,hb⟩;refine⟨_,rfl,?_⟩;have zaz:=aM (Kd.N_lower (Kd.N_mono (ok':=fun k_=>some k_≠(.slice zak zaa.length zai:Value).ownBlock∧k_≠zo∧k_≠ze) ho0 (fun k_ hk_=>⟨(Kd.fresh' (Kd.R_lt (by(with_reducible repeat(first|apply rA|apply rN|apply rD));exact(F3 z2 zd (fun _ h_=>h_.1)))) k_ hk_),(Kd.freshB (g:=zo) (o:=.cells #[.slice none 0 0,.slice none 0 0,.slice none 0 0] 32 (0,0)) (by refine B3 zp ?_;exact zc.out) k_ hk_),(Kd.freshB (g:=ze) (o:=.cells #[.slice zak zaa.length zai,.slice none 0 0,.slice none 0 0] 32 (0,0)) (by exact P3 zd) k_ hk_)⟩)) (below_size (qB2 HB zm zq)));replace z2:=aM (Kd.R_below (by(with_reducible repeat(first|apply rA|apply rN|apply rD));exact(F3 z2 zd (fun _ h_=>h_.1))) hb);replace zc:=aM (blk_below (g:=zo) (o:=.cells #[.slice none 0 0,.slice none 0 0,.slice none 0 0] 32 (0,0)) (by refine B3 zp ?_;exact zc.out) hb);replace zd:=aM (blk_below (g:=ze) (o:=.cells #[.slice zak zaa.length zai,.slice none 0 0,.slice none 0 0] 32 (0,0)) (by exact P3 zd) hb);replace HB:=bS (qB2 HB zm zq) hb;(try clear hb);(try clear hk);(try clear hi);(try clear ho0);obtain⟨yaz,z8,ya0⟩:=Kd.N_slice zaz.out;subst ya0))
 go_loopg [76] k2 (fun kq v76 w'=>∃ (ya:Int) (zl:List Int) (zk:List Int) (zg:List Int) (u561000:Value) (u561001:Value) (u561002:Value),v76=.int .i64 ya∧Aside0 (fbc.l1 kq l0 l1 a2 zn (zn.length:Int) ya zl zk zg=some (r1,r2,r3,r4))∧Aside0 (kq≤k2)∧Aside0 (Kd.N (Kd.slice 3 (Kd.int .i64)) 22 w' w.heap.size (fun k_=>some k_≠(u561000:Value).ownBlock∧some k_≠(u561001:Value).ownBlock∧some k_≠(u561002:Value).ownBlock∧k_≠zo∧k_≠ze) (.slice yaz zn.length z8) zn)∧Aside0 (Kd.R (Kd.int .i64) 3 w' w.heap.size (fun k_=>some k_≠(u561001:Value).ownBlock∧some k_≠(u561002:Value).ownBlock) u561000 zl)∧Aside0 (Kd.R (Kd.int .i64) 3 w' w.heap.size (fun k_=>some k_≠(u561000:Value).ownBlock∧some k_≠(u561002:Value).ownBlock) u561001 zk)∧Aside0 (Kd.R (Kd.int .i64) 3 w' w.heap.size (fun k_=>some k_≠(u561000:Value).ownBlock∧some k_≠(u561001:Value).ownBlock) u561002 zg)∧Aside0 (w'.heap[zo]?=some (.cells #[(.slice none 0 0),(.slice none 0 0),(.slice none 0 0)] 32 (0,0)))∧Aside0 (w'.heap[ze]?=some (.cells #[u561000,u561001,u561002] 32 (0,0)))∧Aside0 (Below w.heap.size w w'))
 case atStart=>exact⟨(0),(zaa),(([]:List Int)),(([]:List Int)),(.slice zak zaa.length zai),(.slice none 0 0),(.slice none 0 0),(pF),H',⟨Nat.le_refl _⟩,⟨by(with_reducible repeat(first|apply Kd.N_alloc|apply Kd.N_drewN|apply Kd.N_drew));exact Kd.N_mono zaz.out (fun _ hk=>⟨hk.1,⟨(by simp [Value.ownBlock]),⟨(by simp [Value.ownBlock]),⟨hk.2.1,hk.2.2⟩⟩⟩⟩)⟩,⟨by(with_reducible repeat(first|apply rA|apply rN|apply rD));exact Kd.R_mono z2.out (fun _ hk=>⟨(by simp [Value.ownBlock]),(by simp [Value.ownBlock])⟩)⟩,⟨pN⟩,⟨pN⟩,⟨pK zc.out⟩,⟨pK zd.out⟩,⟨qB2 HB zm zq⟩⟩
 clear H'
 try clear zaw
 try clear yah
 try clear yai
 try clear yaj
 try clear zax
 try clear zay
 try clear yao
 try clear yo
 try clear yp
 try clear yak
 try clear yam
 try clear yal
 try clear yan
 obtain⟨ya,zl,zk,zg,u561000,u561001,u561002,rfl,HA,HK3,zj,za,zf,zb,zc,zd,HB⟩:=hrel
 cases gk with
 | zero=>exact absurd HA.out (by simp [fbc.l1])
 | succ k3=>?_
 have H:=HA.out
 clear HA
 simp only [fbc.l1] at H
 by_cases c34:ya < (zn.length:Int)
 rotate_left
 ·rw [iN c34] at H
  have yap:=dF c34
  clear c34
  replace H:=oi4 H
  obtain⟨rfl,rfl,rfl,rfl⟩:=H
  have hnb84:=zx.out
  have hnc84:=zp.out
  have hcz85:=blk3 zd.out
  obtain⟨ya1,ya2,ya3⟩:=Kd.R_slice za.out
  subst ya3
  have hcz87:=blk3 zc.out
  obtain⟨ya4,ya5,ya6⟩:=Kd.R_slice zf.out
  subst ya6
  obtain⟨ya7,ya8,ya9⟩:=Kd.R_slice zb.out
  subst ya9
  go_wp2
  refine bodyPost_ret (results_ct rfl _ _ zo 32 #[.slice ya1 zl.length ya2,.slice ya4 zk.length ya5,.slice ya7 zg.length ya8] (0,0) _ rfl (by exact P3 zc) Try.underlying32 rfl (by kernel_rfl)) rfl ?_
  exact⟨_,_,_,pE,by(with_reducible repeat(first|apply rA|apply rN|apply rD));exact F3 za zc (fun _ hk=>⟨hk.1.1,hk.1.2⟩),by(with_reducible repeat(first|apply rA|apply rN|apply rD));exact F3 zf zc (fun _ hk=>⟨hk.1.1,hk.1.2⟩),by(with_reducible repeat(first|apply rA|apply rN|apply rD));exact F3 zb zc (fun _ hk=>⟨hk.1.1,hk.1.2⟩),qB2 HB zm zq⟩
 rw [ip c34] at H
 have yap:=dT c34
 clear c34
 obtain⟨zac,zal⟩:∃ y_:List Int,y_=(([]:List Int)):=⟨_,rfl⟩
 replace H:(if 0≤ya then(if ya < (zn.length:Int)then(if zac.length + (rd_L1 zn ya).length < 17592186044416 then((some (zac ++ (rd_L1 zn ya):List Int)).bind fun zh=>(if 0≤a2 then(if a2 < (zh.length:Int)then(if a2 < (l0.length:Int)then(if(rd zh a2) < (rd l0 a2)then(if zk.length < 17592186044416 then((fan.f k3 l0 zh).bind fun z9=>(if zg.length < 17592186044416 then(fbc.l1 k3 l0 l1 a2 zn (zn.length:Int) (wrap64 (ya + 1)) zl (zk ++ [0]) (zg ++ [z9]))else(none)))else(none))else(if zk.length < 17592186044416 then((fan.f k3 l1 (zh.set (a2:Int).toNat (wrap64 ((rd zh a2) - (rd l0 a2))))).bind fun z5=>(if zg.length < 17592186044416 then(fbc.l1 k3 l0 l1 a2 zn (zn.length:Int) (wrap64 (ya + 1)) zl (zk ++ [1]) (zg ++ [z5]))else(none)))else(none)))else(none))else(none))else(none)))else(none))else(none))else(none))=some (r1,r2,r3,r4):=pH zal H
 have zah:=aM zal
 clear zal
 by_cases c35:0≤ya
 rotate_left
 ·rw [iN c35] at H
  cases H
 rw [ip c35] at H
 have c35b0:=dT c35
 clear c35
 by_cases c36:ya < (zn.length:Int)
 rotate_left
 ·rw [iN c36] at H
  cases H
 rw [ip c36] at H
 have c36b0:=dT c36
 clear c36
 by_cases c37:zac.length + (rd_L1 zn ya).length < 17592186044416
 rotate_left
 ·rw [iN c37] at H
  cases H
 rw [ip c37] at H
 have za0:=aM c37
 clear c37
 obtain⟨zh,zam⟩:∃ y_:List Int,y_=(zac ++ (rd_L1 zn ya)):=⟨_,rfl⟩
 replace H:(if 0≤a2 then(if a2 < (zh.length:Int)then(if a2 < (l0.length:Int)then(if(rd zh a2) < (rd l0 a2)then(if zk.length < 17592186044416 then((fan.f k3 l0 zh).bind fun z9=>(if zg.length < 17592186044416 then(fbc.l1 k3 l0 l1 a2 zn (zn.length:Int) (wrap64 (ya + 1)) zl (zk ++ [0]) (zg ++ [z9]))else(none)))else(none))else(if zk.length < 17592186044416 then((fan.f k3 l1 (zh.set (a2:Int).toNat (wrap64 ((rd zh a2) - (rd l0 a2))))).bind fun z5=>(if zg.length < 17592186044416 then(fbc.l1 k3 l0 l1 a2 zn (zn.length:Int) (wrap64 (ya + 1)) zl (zk ++ [1]) (zg ++ [z5]))else(none)))else(none)))else(none))else(none))else(none))=some (r1,r2,r3,r4):=pH zam H
 have za1:=aM zam
 clear zam
 by_cases c38:0≤a2
 rotate_left
 ·rw [iN c38] at H
  cases H
 rw [ip c38] at H
 have c38b0:=dT c38
 clear c38
 by_cases c39:a2 < (zh.length:Int)
 rotate_left
 ·rw [iN c39] at H
  cases H
 rw [ip c39] at H
 have c39b0:=dT c39
 clear c39
 by_cases c40:a2 < (l0.length:Int)
 rotate_left
 ·rw [iN c40] at H
  cases H
 rw [ip c40] at H
 have c40b0:=dT c40
 clear c40
 by_cases c41:(rd zh a2) < (rd l0 a2)
 ·rw [ip c41] at H
  have yaq:=dT c41
  clear c41
  by_cases c42:zk.length < 17592186044416
  rotate_left
  ·rw [iN c42] at H
   cases H
  rw [ip c42] at H
  have LMc42:=aM c42
  clear c42
  obtain⟨zr,zan⟩:∃ y_:List Int,y_=(zk ++ [0]):=⟨_,rfl⟩
  replace H:((fan.f k3 l0 zh).bind fun z9=>(if zg.length < 17592186044416 then(fbc.l1 k3 l0 l1 a2 zn (zn.length:Int) (wrap64 (ya + 1)) zl zr (zg ++ [z9]))else(none)))=some (r1,r2,r3,r4):=pH zan H
  have Ny573:=aM zan
  clear zan
  replace H:=oB H
  obtain⟨z9,zba,H⟩:=H
  try dsimp only at H
  have A43:=aM zba
  clear zba
  by_cases c44:zg.length < 17592186044416
  rotate_left
  ·rw [iN c44] at H
   cases H
  rw [ip c44] at H
  have LMc44:=aM c44
  clear c44
  obtain⟨zaf,zao⟩:∃ y_:List Int,y_=(zg ++ [z9]):=⟨_,rfl⟩
  replace H:(fbc.l1 k3 l0 l1 a2 zn (zn.length:Int) (wrap64 (ya + 1)) zl zr zaf)=some (r1,r2,r3,r4):=pH zao H
  have Ny577:=aM zao
  clear zao
  have H':=aM H
  clear H
  try go_wp2_with (first|((with_reducible refine gD 79 rfl ?_);(try (refine gate_guard (by rfl) ?_;dsimp only));refine Kd.R_lit (Kd.int .i64) _ 3 ?hg (N:=79) ?hd (xs:=([]:List Int)) (inner:=[]) (ok:=fun _=>True) (okp:=fun _=>True) ?hr ?hp (fun _ hk=>hk) trivial (Below.refl _ _) (Nat.le_refl _) (by simp) ?_;(case hd=>rfl);(case hg=>rfl);(case hr=>first|(go_simp;done)|(go_simp;rfl));(case hp=>exact(Reps.none _ _));intro za4 w45 ho46 hb hg_ hnew_;clear hg_ hnew_;(first|rw [← zah.out] at ho46|(simp only [Int.reduceToNat] at ho46;rw [← zah.out] at ho46));replace zj:=aM (Kd.N_elder' (by(with_reducible repeat(first|apply Kd.N_alloc|apply Kd.N_drewN|apply Kd.N_drew));exact zj.out) (Kd.R_base ho46) hb);have z6:=aM (Kd.R_lower (Kd.R_new' (Kd.R_new' (Kd.R_new' ho46 (Kd.R_lt (pR za.out))) (Kd.R_lt (pR zf.out))) (Kd.R_lt (pR zb.out))) (below_size (qB2 HB zm zq)));replace za:=eR za ho46 hb;replace zf:=eR zf ho46 hb;replace zb:=eR zb ho46 hb;replace zc:=bK zc hb;replace zd:=bK zd hb;replace HB:=bS (qB2 HB zm zq) hb;clear hb ho46;have y5:0≤(ya:Int):=oD;have y6:ya < (zn.length:Int):=oD;obtain⟨yf,yu,yv,yaa,yw,ym,yn⟩:=at_L1 (Kd.N_reads' zj.out).2.2 ya y5 y6;cases yaa;obtain⟨yar,yz,y0,yr⟩:=Kd.N_get zj.out [] ya y5 (by first|exact y6|exact of_decide_eq_true pD|(have e_:=(Kd.N_reads' zj.out).1;omega));obtain⟨ua567_0,uc567_0,rfl,ul567_0,ge567_0⟩:=Kd.FK_slice_open y0;have hv567_0:=yr 0 _ rfl;rw [Nat.add_zero,show ((Kd.slice 3 (Kd.int .i64))).sz=1 from rfl,Nat.mul_one] at hv567_0;replace hv567_0:=Option.some.inj (hv567_0.symm.trans yw);injection hv567_0 with hva_ hvn_ hvc_;rw [hva_] at ge567_0;rw [hvc_] at ul567_0;have HL567_0:=aM (show Kd.V (Kd.int .i64) 3 _ w.heap.size _ _ (rd_L1 zn ya) from Kd.V_mk ul567_0 ge567_0);clear hva_ hvn_ hvc_ ge567_0 ul567_0;clear yr yz;have z7:=aM yn;have y8:=aM ym;clear yn ym)|((with_reducible refine gate_builtin (b:=.append) (xs:=#[.tmp 79,.tmp 83]) rfl ?_);(try (refine gate_guard (by rfl) ?_;dsimp only));at_builtin;refine Kd.R_append_rows (Kd.int .i64) (w0:=w) w.heap.size rfl (.tmp 79) (.tmp 83) 22 3 (.int .i64 0) 8 rfl Try.underlying22 info3 rfl (by decide) (by omega) za4 zac (rd_L1 zn ya) _ _ _ (fun k_=>some k_≠(u561000:Value).ownBlock∧some k_≠(u561001:Value).ownBlock∧some k_≠(u561002:Value).ownBlock) (fun _=>False) rfl rfl ?aO ?aR (fun _ _ h=>h) (fun _ h=>h.elim) ?aF ?aB ?aS ?aL ?_;(case aR=>repeat(first|exact(by repeat(first|(with_reducible exact z7.out)|(with_reducible refine Kd.C_alloc ?_ _)|(with_reducible refine Kd.C_drewN ?_ _)|(with_reducible refine Kd.C_drew ?_)|exact z7.out))|(with_reducible refine Kd.C_alloc ?_ _)|(with_reducible refine Kd.C_drewN ?_ _)|(with_reducible refine Kd.C_drew ?_)));(case aB=>exact(qB2 HB zm zq));(case aF=>exact(fun k_ hk=>⟨Kd.fresh' (Kd.R_lt (pR za.out)) k_ hk,Kd.fresh' (Kd.R_lt (pR zf.out)) k_ hk,Kd.fresh' (Kd.R_lt (pR zb.out)) k_ hk⟩));(case aO=>exact(by(with_reducible repeat(first|apply rA|apply rN|apply rD));exact Kd.R_mono z6.out (fun _ hk=>⟨hk.1.1.2,⟨hk.1.2,hk.2⟩⟩)));(case aS=>exact(below_size (qB2 HB zm zq)));(case aL=>have:=za0.out;omega);intro v569 w47 ho hb hg hat;rw [← za1.out] at ho;replace zj:=aM (Kd.N_afterv (ok:=(fun k_=>some k_≠(u561000:Value).ownBlock∧some k_≠(u561001:Value).ownBlock∧some k_≠(u561002:Value).ownBlock∧k_≠zo∧k_≠ze)) (by(with_reducible repeat(first|apply Kd.N_alloc|apply Kd.N_drewN|apply Kd.N_drew));exact zj.out) hg hat);replace za:=aM (Kd.R_after (ok:=(fun k_=>some k_≠(u561001:Value).ownBlock∧some k_≠(u561002:Value).ownBlock)) (pR za.out) hg hat);replace zf:=aM (Kd.R_after (ok:=(fun k_=>some k_≠(u561000:Value).ownBlock∧some k_≠(u561002:Value).ownBlock)) (pR zf.out) hg hat);replace zb:=aM (Kd.R_after (ok:=(fun k_=>some k_≠(u561000:Value).ownBlock∧some k_≠(u561001:Value).ownBlock)) (pR zb.out) hg hat);replace zc:=aM (blk_grown (g:=zo) (pK zc.out) hg (Kd.R_ne z6.out zc.out (by decide)));replace zd:=aM (blk_grown (g:=ze) (pK zd.out) hg (Kd.R_ne z6.out zd.out (by decide)));replace HL567_0:=aM (Kd.V_afterv (ok:=(fun k_=>some k_≠(.slice (some yf) zn.length z8:Value).ownBlock∧some k_≠(u561000:Value).ownBlock∧some k_≠(u561001:Value).ownBlock∧some k_≠(u561002:Value).ownBlock∧k_≠zo∧k_≠ze)) (by(with_reducible repeat(first|apply Kd.V_alloc|apply Kd.V_drewN|apply Kd.V_drew));exact Kd.V_mono HL567_0.out (fun _ hk=>⟨⟨hk.2,⟨hk.1.1.1,⟨hk.1.1.2.1,⟨hk.1.1.2.2.1,⟨hk.1.1.2.2.2.1,hk.1.1.2.2.2.2⟩⟩⟩⟩⟩,hk.1.2⟩)) hg hat);replace HB:=aM (hb);have zi:=aM (ho);clear z6;clear ho hb hg hat))
  replace zj:=aM (Kd.N_drew zj.out)
  replace za:=aM (Kd.R_drew za.out)
  replace zf:=aM (Kd.R_drew zf.out)
  replace zb:=aM (Kd.R_drew zb.out)
  replace HL567_0:=aM (Kd.V_drew HL567_0.out)
  replace zi:=aM (Kd.R_drew zi.out)
  replace zc:=aM (blk_drew zc.out)
  replace zd:=aM (blk_drew zd.out)
  replace HB:=aM (below_drew1 HB.out)
  obtain⟨Ao49,z1,zbb⟩:=Kd.R_slice zi.out
  (first|subst zbb|(injection zbb with f1_ f2_ f3_;have f4_:=f1_.symm;have f5_:=f3_.symm;clear f1_ f2_ f3_;subst f4_;subst f5_))
  obtain⟨yd,⟨⟩,yi,yba,ybb⟩:=zI (Kd.R_reads' zi.out).2.2 a2
  obtain⟨y7,yab,ye,ybc,ybd⟩:=zI HR0.out a2
  have yx:=ye
  obtain rfl:yj=y7:=(by injection yab)
  replace ye:=zW HB ye
  refine sT 9 [] (fun w'=>w'.cell? (yd.add (a2).toNat)=some (.int .i64 (rd zh a2))∧w'.cell? (yj.add (a2).toNat)=some (.int .i64 (rd l0 a2))) fbc.tab20 fbc.bits20 ⟨yi,(zW HB yx)⟩ (fun hHeld HT_ HW_=>?_)
  generalize w47.drew=w48 at zj za zf zb HL567_0 zi zc zd HB yi ye hHeld ⊢
  refine pQ 0 85 9 1 HT_ ?_
  refine pQ 1 86 9 3 HT_ ?_
  refine pQ 2 87 9 7 HT_ ?_
  refine pQ 4 89 9 23 HT_ ?_
  refine pQ 5 90 9 55 HT_ ?_
  refine pQ 6 91 9 119 HT_ ?_
  refine pU2 3 88 9 127 HT_ HW_ hHeld ?_
  refine pU2 7 92 9 255 HT_ HW_ hHeld ?_
  refine pQ 8 93 9 511 HT_ ?_
  refine dN HT_ ?_
  have hnb50:=zx.out
  have hnc50:=zp.out
  have hcz51:=blk3 zd.out
  try go_wp2_with (first|((with_reducible refine gate_builtin (b:=.append) (xs:=#[.tmp 95,.tmp 96]) rfl ?_);(try (refine gate_guard (by rfl) ?_;dsimp only));at_builtin;refine Kd.R_append (Kd.int .i64) (w0:=w) w.heap.size rfl (.tmp 95) (.tmp 96) 22 3 (.int .i64 0) 8 rfl Try.underlying22 info3 rfl (by decide) (by omega) u561001 zk 0 [.int .i64 0] (fun k_=>some k_≠(u561000:Value).ownBlock∧some k_≠(u561002:Value).ownBlock∧some k_≠(.slice (some yd) zh.length z1:Value).ownBlock) (fun _=>False) rfl rfl ?aP (fun _ hk=>hk.elim) ?aF ?aO ?aB ?aS ?aL ?_;(case aP=>exact rfl);(case aB=>exact(qB2 HB zm zq));(case aF=>exact(fun k_ hk=>⟨Kd.fresh' (Kd.R_lt (pR za.out)) k_ hk,Kd.fresh' (Kd.R_lt (pR zb.out)) k_ hk,Kd.fresh' (Kd.R_lt (pR zi.out)) k_ hk⟩));(case aO=>exact(by(with_reducible repeat(first|apply rA|apply rN|apply rD));exact Kd.R_mono zf.out (fun _ hk=>⟨hk.1.1,⟨hk.1.2,hk.2⟩⟩)));(case aS=>exact(below_size (qB2 HB zm zq)));(case aL=>have:=LMc42.out;omega);intro v574 w52 ho hb hg hat;rw [← Ny573.out] at ho;replace zj:=aM (Kd.N_afterv (ok:=(fun k_=>some k_≠(u561000:Value).ownBlock∧some k_≠(u561002:Value).ownBlock∧some k_≠(.slice (some yd) zh.length z1:Value).ownBlock∧k_≠zo∧k_≠ze)) (by(with_reducible repeat(first|apply Kd.N_alloc|apply Kd.N_drewN|apply Kd.N_drew));exact Kd.N_mono zj.out (fun _ hk=>⟨⟨hk.1.1,⟨hk.1.2.2.1,⟨hk.2,⟨hk.1.2.2.2.1,hk.1.2.2.2.2⟩⟩⟩⟩,hk.1.2.1⟩)) hg hat);replace za:=aM (Kd.R_after (ok:=(fun k_=>some k_≠(u561002:Value).ownBlock∧some k_≠(.slice (some yd) zh.length z1:Value).ownBlock)) (by(with_reducible repeat(first|apply rA|apply rN|apply rD));exact Kd.R_mono za.out (fun _ hk=>⟨⟨hk.1.2,hk.2⟩,hk.1.1⟩)) hg hat);replace zb:=aM (Kd.R_after (ok:=(fun k_=>some k_≠(u561000:Value).ownBlock∧some k_≠(.slice (some yd) zh.length z1:Value).ownBlock)) (by(with_reducible repeat(first|apply rA|apply rN|apply rD));exact Kd.R_mono zb.out (fun _ hk=>⟨⟨hk.1.1,hk.2⟩,hk.1.2⟩)) hg hat);replace zc:=aM (blk_grown (g:=zo) (pK zc.out) hg (Kd.R_ne zf.out zc.out (by decide)));replace zd:=aM (blk_grown (g:=ze) (pK zd.out) hg (Kd.R_ne zf.out zd.out (by decide)));replace HL567_0:=aM (Kd.V_afterv (ok:=(fun k_=>some k_≠(.slice (some yf) zn.length z8:Value).ownBlock∧some k_≠(u561000:Value).ownBlock∧some k_≠(u561002:Value).ownBlock∧some k_≠(.slice (some yd) zh.length z1:Value).ownBlock∧k_≠zo∧k_≠ze)) (by(with_reducible repeat(first|apply Kd.V_alloc|apply Kd.V_drewN|apply Kd.V_drew));exact Kd.V_mono HL567_0.out (fun _ hk=>⟨⟨hk.1.1,⟨hk.1.2.1,⟨hk.1.2.2.2.1,⟨hk.2,⟨hk.1.2.2.2.2.1,hk.1.2.2.2.2.2⟩⟩⟩⟩⟩,hk.1.2.2.1⟩)) hg hat);replace zi:=aM (Kd.R_after (ok:=(fun k_=>some k_≠(u561000:Value).ownBlock∧some k_≠(u561002:Value).ownBlock)) (by(with_reducible repeat(first|apply rA|apply rN|apply rD));exact Kd.R_mono zi.out (fun _ hk=>⟨⟨hk.1,hk.2.2⟩,hk.2.1⟩)) hg hat);replace HB:=aM (hb);have zz:=aM (ho);clear zf;clear ho hb hg hat;obtain⟨zt,zu,ybe⟩:=Kd.R_slice zz.out;subst ybe;have hcz54:=blk3 zd.out))
  have n0_:Aside0 (Kd.N (Kd.slice 3 (Kd.int .i64)) 22 (w52.setCell ⟨ze,1,none⟩ (.slice zt zr.length zu)) w.heap.size (fun k_=>some k_≠(u561000:Value).ownBlock∧some k_≠(u561002:Value).ownBlock∧some k_≠(.slice (some yd) zh.length z1:Value).ownBlock∧some k_≠(.slice zt zr.length zu:Value).ownBlock∧k_≠zo∧k_≠ze) (.slice (some yf) zn.length z8) zn):=⟨by(with_reducible repeat(first|apply Kd.N_alloc|apply Kd.N_drewN|apply Kd.N_drew));exact Kd.N_mono (Kd.N_far (p:=⟨ze,1,none⟩) (Kd.N_mono zj.out (fun k_ hk=>(⟨hk,hk.1.2.2.2.2⟩:_∧k_≠ze))) (fun _ hk=>hk.2) (.slice zt zr.length zu)) (fun _ hk=>⟨hk.1.1.1,⟨hk.1.1.2.1,⟨hk.1.1.2.2.1,⟨hk.1.2,⟨hk.1.1.2.2.2.1,hk.1.1.2.2.2.2⟩⟩⟩⟩⟩)⟩
  have n1_:Aside0 (Kd.R (Kd.int .i64) 3 (w52.setCell ⟨ze,1,none⟩ (.slice zt zr.length zu)) w.heap.size (fun k_=>some k_≠(u561002:Value).ownBlock∧some k_≠(.slice (some yd) zh.length z1:Value).ownBlock∧some k_≠(.slice zt zr.length zu:Value).ownBlock) u561000 zl):=⟨by(with_reducible repeat(first|apply rA|apply rN|apply rD));exact Kd.R_mono (Kd.R_far (p:=⟨ze,1,none⟩) (Kd.R_types za.out zd.out (by decide)) (fun _ hk=>hk.2) (.slice zt zr.length zu)) (fun _ hk=>⟨hk.1.1.1,⟨hk.1.1.2,hk.1.2⟩⟩)⟩
  have n2_:Aside0 (Kd.R (Kd.int .i64) 3 (w52.setCell ⟨ze,1,none⟩ (.slice zt zr.length zu)) w.heap.size (fun k_=>some k_≠(u561000:Value).ownBlock∧some k_≠(.slice (some yd) zh.length z1:Value).ownBlock∧some k_≠(.slice zt zr.length zu:Value).ownBlock) u561002 zg):=⟨by(with_reducible repeat(first|apply rA|apply rN|apply rD));exact Kd.R_mono (Kd.R_far (p:=⟨ze,1,none⟩) (Kd.R_types zb.out zd.out (by decide)) (fun _ hk=>hk.2) (.slice zt zr.length zu)) (fun _ hk=>⟨hk.1.1.1,⟨hk.1.1.2,hk.1.2⟩⟩)⟩
  have n3_:Aside0 (Kd.V (Kd.int .i64) 3 (w52.setCell ⟨ze,1,none⟩ (.slice zt zr.length zu)) w.heap.size (fun k_=>some k_≠(.slice (some yf) zn.length z8:Value).ownBlock∧some k_≠(u561000:Value).ownBlock∧some k_≠(u561002:Value).ownBlock∧some k_≠(.slice (some yd) zh.length z1:Value).ownBlock∧some k_≠(.slice zt zr.length zu:Value).ownBlock∧k_≠zo∧k_≠ze) (.slice yu (rd_L1 zn ya).length yv) (rd_L1 zn ya)):=⟨by(with_reducible repeat(first|apply Kd.V_alloc|apply Kd.V_drewN|apply Kd.V_drew));exact Kd.V_mono (Kd.V_far (p:=⟨ze,1,none⟩) (Kd.V_mono HL567_0.out (fun k_ hk=>(⟨hk,hk.1.2.2.2.2.2⟩:_∧k_≠ze))) (fun _ hk=>hk.2) (.slice zt zr.length zu)) (fun _ hk=>⟨hk.1.1.1,⟨hk.1.1.2.1,⟨hk.1.1.2.2.1,⟨hk.1.1.2.2.2.1,⟨hk.1.2,⟨hk.1.1.2.2.2.2.1,hk.1.1.2.2.2.2.2⟩⟩⟩⟩⟩⟩)⟩
  have n4_:Aside0 (Kd.R (Kd.int .i64) 3 (w52.setCell ⟨ze,1,none⟩ (.slice zt zr.length zu)) w.heap.size (fun k_=>some k_≠(u561000:Value).ownBlock∧some k_≠(u561002:Value).ownBlock∧some k_≠(.slice zt zr.length zu:Value).ownBlock) (.slice (some yd) zh.length z1) zh):=⟨by(with_reducible repeat(first|apply rA|apply rN|apply rD));exact Kd.R_mono (Kd.R_far (p:=⟨ze,1,none⟩) (Kd.R_types zi.out zd.out (by decide)) (fun _ hk=>hk.2) (.slice zt zr.length zu)) (fun _ hk=>⟨hk.1.1.1,⟨hk.1.1.2,hk.1.2⟩⟩)⟩
  have n5_:Aside0 (Kd.R (Kd.int .i64) 3 (w52.setCell ⟨ze,1,none⟩ (.slice zt zr.length zu)) w.heap.size (fun k_=>some k_≠(u561000:Value).ownBlock∧some k_≠(u561002:Value).ownBlock∧some k_≠(.slice (some yd) zh.length z1:Value).ownBlock) (.slice zt zr.length zu) zr):=⟨by(with_reducible repeat(first|apply rA|apply rN|apply rD));exact Kd.R_mono (Kd.R_far (p:=⟨ze,1,none⟩) (Kd.R_types zz.out zd.out (by decide)) (fun _ hk=>hk.2) (.slice zt zr.length zu)) (fun _ hk=>⟨hk.1.1,⟨hk.1.2.1,hk.1.2.2⟩⟩)⟩
  have n6_:Aside0 ((w52.setCell ⟨ze,1,none⟩ (.slice zt zr.length zu)).heap[zo]?=some (.cells #[.slice none 0 0,.slice none 0 0,.slice none 0 0] 32 (0,0))):=⟨by(with_reducible repeat(first|apply bN|apply bD|apply bA));refine blk_far ?_ zp.out _;(with_reducible repeat(first|apply bN|apply bD|apply bA));exact zc.out⟩
  have n7_:Aside0 ((w52.setCell ⟨ze,1,none⟩ (.slice zt zr.length zu)).heap[ze]?=some (.cells #[u561000,.slice zt zr.length zu,u561002] 32 (0,0))):=⟨by(with_reducible repeat(first|apply bN|apply bD|apply bA));refine blk_put (cs:=#[u561000,u561001,u561002]) ?_ 1 _ rfl;(with_reducible repeat(first|apply bN|apply bD|apply bA));exact zd.out⟩
  have n8_:Aside0 (Below w.heap.size w (w52.setCell ⟨ze,1,none⟩ (.slice zt zr.length zu))):=⟨qB2 HB zm zq⟩
  (try clear zj)
  (try clear za)
  (try clear zb)
  (try clear HL567_0)
  (try clear zi)
  (try clear zz)
  (try clear zc)
  (try clear zd)
  (try clear HB)
  generalize (w52.setCell ⟨ze,1,none⟩ (.slice zt zr.length zu))=w55 at n0_ n1_ n2_ n3_ n4_ n5_ n6_ n7_ n8_ ⊢
  have zj:=n0_
  have za:=n1_
  have zb:=n2_
  have HL567_0:=n3_
  have zi:=n4_
  have zz:=n5_
  have zc:=n6_
  have zd:=n7_
  have HB:=n8_
  clear n0_ n1_ n2_ n3_ n4_ n5_ n6_ n7_ n8_
  replace zj:=aM (Kd.N_drew zj.out)
  replace za:=aM (Kd.R_drew za.out)
  replace zb:=aM (Kd.R_drew zb.out)
  replace HL567_0:=aM (Kd.V_drew HL567_0.out)
  replace zi:=aM (Kd.R_drew zi.out)
  replace zz:=aM (Kd.R_drew zz.out)
  replace zc:=aM (blk_drew zc.out)
  replace zd:=aM (blk_drew zd.out)
  replace HB:=aM (below_drew1 HB.out)
  refine sT 9 [8] (fun w'=>w'.cell? ⟨ze,0,none⟩=some (u561000)∧w'.cell? ⟨ze,1,none⟩=some (.slice zt zr.length zu)∧w'.cell? ⟨ze,2,none⟩=some (u561002)) fbc.tab22 fbc.bits22 (h3 zd) (fun hHeld HT_ HW_=>?_)
  generalize w55.drew=w56 at zj za zb HL567_0 zi zz zc zd HB hHeld ⊢
  refine pQ 0 99 9 1 HT_ ?_
  refine pQ 2 101 9 5 HT_ ?_
  refine pQ 3 102 9 13 HT_ ?_
  refine pU3 1 100 9 15 HT_ HW_ hHeld ?_
  refine oN 4 103 9 31 HT_ (fun K hK=>?_)
  refine gS Try.func64 #[.slice (some yj) l0.length c0,.slice (some yd) zh.length z1] ?_
  with_reducible refine(fan.calls k3 _ _ l0 _ _ zh z9 _ ?s1 HC0.out ?s3 ?s4 A43.out).mono ?_
  (case s1=>exact sC HR0 HB)
  (case s3=>exact sR zi)
  (case s4=>exact sL zi)
  rintro e w57 ⟨rfl,hb⟩
  refine⟨_,rfl,?_⟩
  replace zj:=aM (Kd.N_below (by(with_reducible repeat(first|apply Kd.N_alloc|apply Kd.N_drewN|apply Kd.N_drew));exact zj.out) hb)
  replace za:=bR za hb
  replace zb:=bR zb hb
  replace HL567_0:=aM (Kd.V_below (pV HL567_0.out) hb)
  replace zi:=bR zi hb
  replace zz:=bR zz hb
  replace zc:=bK zc hb
  replace zd:=bK zd hb
  replace HB:=bS (qB2 HB zm zq) hb
  (try clear hb)
  (try clear hk)
  (try clear hi)
  refine hK.out _ _ (h3 zd) (fun hHeld=>?_)
  clear hK K
  refine norm_ (a':=?_) ?_ ?_
  rotate_left
  ·show Act.put _ (some 103) _=_
   simp only [Act.put,sP,i64_w,i32_w]
   rfl
  refine oN 5 104 9 63 HT_ (fun K hK=>?_)
  refine value_ (w1:=?_) (v:=?_) (by rfl) rfl ?_ ?_
  rotate_left 2
  ·go_simp
   constructor
   ·rfl
   ·rfl
  refine hK.out _ _ ⟨(blk_cell (blk_alloc zd.out _) 0).trans rfl,(blk_cell (blk_alloc zd.out _) 1).trans rfl,(blk_cell (blk_alloc zd.out _) 2).trans rfl⟩ (fun hHeld=>?_)
  clear hK K
  refine norm_ (a':=?_) ?_ ?_
  rotate_left
  ·show Act.put _ (some 104) _=_
   simp only [Act.put,sP,i64_w,i32_w]
   rfl
  refine oN 6 105 9 127 HT_ (fun K hK=>?_)
  refine Kd.R_append_step (Kd.int .i64) (w0:=w) w.heap.size (by rfl) (.tmp 100) (.tmp 104) 22 3 (.int .i64 0) 8 rfl Try.underlying22 info3 rfl (by decide) (by omega) u561002 zg z9 [.int .i64 z9] (fun k_=>some k_≠(u561000:Value).ownBlock∧some k_≠(.slice (some yd) zh.length z1:Value).ownBlock∧some k_≠(.slice zt zr.length zu:Value).ownBlock) (fun _=>False) rfl rfl ?aP (fun _ hk=>hk.elim) ?aF ?aO ?aB ?aS ?aL ?_
  (case aP=>exact rfl)
  (case aB=>exact(qB2 HB zm zq))
  (case aF=>exact(fun k_ hk=>⟨Kd.fresh' (Kd.R_lt (pR za.out)) k_ hk,Kd.fresh' (Kd.R_lt (pR zi.out)) k_ hk,Kd.fresh' (Kd.R_lt (pR zz.out)) k_ hk⟩))
  (case aO=>exact(pR zb.out))
  (case aS=>exact(below_size (qB2 HB zm zq)))
  (case aL=>have:=LMc44.out;omega)
  intro v578 w58 ho hb hg hat
  rw [← Ny577.out] at ho
  replace zj:=aM (Kd.N_afterv (ok:=(fun k_=>some k_≠(u561000:Value).ownBlock∧some k_≠(.slice (some yd) zh.length z1:Value).ownBlock∧some k_≠(.slice zt zr.length zu:Value).ownBlock∧k_≠zo∧k_≠ze)) (by(with_reducible repeat(first|apply Kd.N_alloc|apply Kd.N_drewN|apply Kd.N_drew));exact Kd.N_mono zj.out (fun _ hk=>⟨⟨hk.1,⟨hk.2.2.1,⟨hk.2.2.2.1,⟨hk.2.2.2.2.1,hk.2.2.2.2.2⟩⟩⟩⟩,hk.2.1⟩)) hg hat)
  replace za:=aM (Kd.R_after (ok:=(fun k_=>some k_≠(.slice (some yd) zh.length z1:Value).ownBlock∧some k_≠(.slice zt zr.length zu:Value).ownBlock)) (by(with_reducible repeat(first|apply rA|apply rN|apply rD));exact Kd.R_mono za.out (fun _ hk=>⟨⟨hk.2.1,hk.2.2⟩,hk.1⟩)) hg hat)
  replace zc:=aM (blk_grown (g:=zo) (pK zc.out) hg (Kd.R_ne zb.out zc.out (by decide)))
  replace zd:=aM (blk_grown (g:=ze) (pK zd.out) hg (Kd.R_ne zb.out zd.out (by decide)))
  replace HL567_0:=aM (Kd.V_afterv (ok:=(fun k_=>some k_≠(.slice (some yf) zn.length z8:Value).ownBlock∧some k_≠(u561000:Value).ownBlock∧some k_≠(.slice (some yd) zh.length z1:Value).ownBlock∧some k_≠(.slice zt zr.length zu:Value).ownBlock∧k_≠zo∧k_≠ze)) (by(with_reducible repeat(first|apply Kd.V_alloc|apply Kd.V_drewN|apply Kd.V_drew));exact Kd.V_mono HL567_0.out (fun _ hk=>⟨⟨hk.1,⟨hk.2.1,⟨hk.2.2.2.1,⟨hk.2.2.2.2.1,⟨hk.2.2.2.2.2.1,hk.2.2.2.2.2.2⟩⟩⟩⟩⟩,hk.2.2.1⟩)) hg hat)
  replace zi:=aM (Kd.R_after (ok:=(fun k_=>some k_≠(u561000:Value).ownBlock∧some k_≠(.slice zt zr.length zu:Value).ownBlock)) (by(with_reducible repeat(first|apply rA|apply rN|apply rD));exact Kd.R_mono zi.out (fun _ hk=>⟨⟨hk.1,hk.2.2⟩,hk.2.1⟩)) hg hat)
  replace zz:=aM (Kd.R_after (ok:=(fun k_=>some k_≠(u561000:Value).ownBlock∧some k_≠(.slice (some yd) zh.length z1:Value).ownBlock)) (by(with_reducible repeat(first|apply rA|apply rN|apply rD));exact Kd.R_mono zz.out (fun _ hk=>⟨⟨hk.1,hk.2.2⟩,hk.2.1⟩)) hg hat)
  replace HB:=aM (hb)
  have za2:=aM (ho)
  clear zb
  clear ho hb hg hat
  obtain⟨zap,zaq,zbc⟩:=Kd.R_slice za2.out
  (first|subst zbc|(injection zbc with f1_ f2_ f3_;have f4_:=f1_.symm;have f5_:=f3_.symm;clear f1_ f2_ f3_;subst f4_;subst f5_))
  refine hK.out _ _ (h3 zd) (fun hHeld=>?_)
  clear hK K
  refine norm_ (a':=?_) ?_ ?_
  rotate_left
  ·show Act.put _ (some 105) _=_
   simp only [Act.put,sP,i64_w,i32_w]
   rfl
  refine pQ 7 106 9 255 HT_ ?_
  refine last_ (i:=8) (N:=none) (bm 9 511) rfl rfl (one_of HT_.out (by kernel_rfl)) (by decide) (fun K hK=>?_)
  have hs60:w58.cell? ⟨ze,2,none⟩=some (u561002):=(blk_cell zd.out 2).trans rfl
  have hfs60:=blk_frozen zd.out 2
  have hns60_0:=zp.out
  have hms60_0:=zx.out
  refine skip_ (w1:=?_) (by rfl) rfl ?_ ?_
  rotate_left
  ·go_simp
   rfl
  refine hK.out _ _ ?_
  clear hK K
  refine dN HT_ ?_
  try go_wp2
  go_roundg k3
  case measure=>have:=HJ3.out;have:=HK2.out;have:=HK3.out;omega
  case rel=>exact⟨(wrap64 (ya + 1)),(zl),(zr),(zaf),(u561000),(.slice zt zr.length zu),(.slice zap zaf.length zaq),(pF),H',⟨by have:=HJ3.out;have:=HK2.out;have:=HK3.out;omega⟩,⟨by(with_reducible repeat(first|apply Kd.N_alloc|apply Kd.N_drewN|apply Kd.N_drew));exact Kd.N_mono (Kd.N_far (p:=⟨ze,2,none⟩) (Kd.N_mono zj.out (fun k_ hk=>(⟨hk,hk.1.2.2.2.2⟩:_∧k_≠ze))) (fun _ hk=>hk.2) (.slice zap zaf.length zaq)) (fun _ hk=>⟨hk.1.1.1,⟨hk.1.1.2.2.1,⟨hk.1.2,⟨hk.1.1.2.2.2.1,hk.1.1.2.2.2.2⟩⟩⟩⟩)⟩,⟨by(with_reducible repeat(first|apply rA|apply rN|apply rD));exact Kd.R_mono (Kd.R_far (p:=⟨ze,2,none⟩) (Kd.R_types za.out zd.out (by decide)) (fun _ hk=>hk.2) (.slice zap zaf.length zaq)) (fun _ hk=>⟨hk.1.1.2,hk.1.2⟩)⟩,⟨by(with_reducible repeat(first|apply rA|apply rN|apply rD));exact Kd.R_mono (Kd.R_far (p:=⟨ze,2,none⟩) (Kd.R_types zz.out zd.out (by decide)) (fun _ hk=>hk.2) (.slice zap zaf.length zaq)) (fun _ hk=>⟨hk.1.1.1,hk.1.2⟩)⟩,⟨by(with_reducible repeat(first|apply rA|apply rN|apply rD));exact Kd.R_mono (Kd.R_far (p:=⟨ze,2,none⟩) (Kd.R_types za2.out zd.out (by decide)) (fun _ hk=>hk.2) (.slice zap zaf.length zaq)) (fun _ hk=>⟨hk.1.1,hk.1.2.2⟩)⟩,⟨by(with_reducible repeat(first|apply bN|apply bD|apply bA));refine blk_far ?_ zp.out _;(with_reducible repeat(first|apply bN|apply bD|apply bA));exact zc.out⟩,⟨by(with_reducible repeat(first|apply bN|apply bD|apply bA));refine blk_put (cs:=#[u561000,.slice zt zr.length zu,u561002]) ?_ 2 _ rfl;(with_reducible repeat(first|apply bN|apply bD|apply bA));exact zd.out⟩,⟨qB2 HB zm zq⟩⟩
 rw [iN c41] at H
 have yaq:=dF c41
 clear c41
 obtain⟨zad,zar⟩:∃ y_:List Int,y_=(zh.set (a2:Int).toNat (wrap64 ((rd zh a2) - (rd l0 a2)))):=⟨_,rfl⟩
 replace H:(if zk.length < 17592186044416 then((fan.f k3 l1 zad).bind fun z5=>(if zg.length < 17592186044416 then(fbc.l1 k3 l0 l1 a2 zn (zn.length:Int) (wrap64 (ya + 1)) zl (zk ++ [1]) (zg ++ [z5]))else(none)))else(none))=some (r1,r2,r3,r4):=pH zar H
 have Ny582:=aM zar
 clear zar
 by_cases c62:zk.length < 17592186044416
 rotate_left
 ·rw [iN c62] at H
  cases H
 rw [ip c62] at H
 have LMc62:=aM c62
 clear c62
 obtain⟨zs,zas⟩:∃ y_:List Int,y_=(zk ++ [1]):=⟨_,rfl⟩
 replace H:((fan.f k3 l1 zad).bind fun z5=>(if zg.length < 17592186044416 then(fbc.l1 k3 l0 l1 a2 zn (zn.length:Int) (wrap64 (ya + 1)) zl zs (zg ++ [z5]))else(none)))=some (r1,r2,r3,r4):=pH zas H
 have Ny583:=aM zas
 clear zas
 replace H:=oB H
 obtain⟨z5,zbd,H⟩:=H
 try dsimp only at H
 have A63:=aM zbd
 clear zbd
 by_cases c64:zg.length < 17592186044416
 rotate_left
 ·rw [iN c64] at H
  cases H
 rw [ip c64] at H
 have LMc64:=aM c64
 clear c64
 obtain⟨zag,zat⟩:∃ y_:List Int,y_=(zg ++ [z5]):=⟨_,rfl⟩
 replace H:(fbc.l1 k3 l0 l1 a2 zn (zn.length:Int) (wrap64 (ya + 1)) zl zs zag)=some (r1,r2,r3,r4):=pH zat H
 have Ny587:=aM zat
 clear zat
 have H':=aM H
 clear H
 try go_wp2_with (first|((with_reducible refine gD 79 rfl ?_);(try (refine gate_guard (by rfl) ?_;dsimp only));refine Kd.R_lit (Kd.int .i64) _ 3 ?hg (N:=79) ?hd (xs:=([]:List Int)) (inner:=[]) (ok:=fun _=>True) (okp:=fun _=>True) ?hr ?hp (fun _ hk=>hk) trivial (Below.refl _ _) (Nat.le_refl _) (by simp) ?_;(case hd=>rfl);(case hg=>rfl);(case hr=>first|(go_simp;done)|(go_simp;rfl));(case hp=>exact(Reps.none _ _));intro za4 w65 ho66 hb hg_ hnew_;clear hg_ hnew_;(first|rw [← zah.out] at ho66|(simp only [Int.reduceToNat] at ho66;rw [← zah.out] at ho66));replace zj:=aM (Kd.N_elder' (by(with_reducible repeat(first|apply Kd.N_alloc|apply Kd.N_drewN|apply Kd.N_drew));exact zj.out) (Kd.R_base ho66) hb);have z6:=aM (Kd.R_lower (Kd.R_new' (Kd.R_new' (Kd.R_new' ho66 (Kd.R_lt (pR za.out))) (Kd.R_lt (pR zf.out))) (Kd.R_lt (pR zb.out))) (below_size (qB2 HB zm zq)));replace za:=eR za ho66 hb;replace zf:=eR zf ho66 hb;replace zb:=eR zb ho66 hb;replace zc:=bK zc hb;replace zd:=bK zd hb;replace HB:=bS (qB2 HB zm zq) hb;clear hb ho66;have y5:0≤(ya:Int):=oD;have y6:ya < (zn.length:Int):=oD;obtain⟨yf,yu,yv,yaa,yw,ym,yn⟩:=at_L1 (Kd.N_reads' zj.out).2.2 ya y5 y6;cases yaa;obtain⟨yar,yz,y0,yr⟩:=Kd.N_get zj.out [] ya y5 (by first|exact y6|exact of_decide_eq_true pD|(have e_:=(Kd.N_reads' zj.out).1;omega));obtain⟨ua567_0,uc567_0,rfl,ul567_0,ge567_0⟩:=Kd.FK_slice_open y0;have hv567_0:=yr 0 _ rfl;rw [Nat.add_zero,show ((Kd.slice 3 (Kd.int .i64))).sz=1 from rfl,Nat.mul_one] at hv567_0;replace hv567_0:=Option.some.inj (hv567_0.symm.trans yw);injection hv567_0 with hva_ hvn_ hvc_;rw [hva_] at ge567_0;rw [hvc_] at ul567_0;have HL567_0:=aM (show Kd.V (Kd.int .i64) 3 _ w.heap.size _ _ (rd_L1 zn ya) from Kd.V_mk ul567_0 ge567_0);clear hva_ hvn_ hvc_ ge567_0 ul567_0;clear yr yz;have z7:=aM yn;have y8:=aM ym;clear yn ym)|((with_reducible refine gate_builtin (b:=.append) (xs:=#[.tmp 79,.tmp 83]) rfl ?_);(try (refine gate_guard (by rfl) ?_;dsimp only));at_builtin;refine Kd.R_append_rows (Kd.int .i64) (w0:=w) w.heap.size rfl (.tmp 79) (.tmp 83) 22 3 (.int .i64 0) 8 rfl Try.underlying22 info3 rfl (by decide) (by omega) za4 zac (rd_L1 zn ya) _ _ _ (fun k_=>some k_≠(u561000:Value).ownBlock∧some k_≠(u561001:Value).ownBlock∧some k_≠(u561002:Value).ownBlock) (fun _=>False) rfl rfl ?aO ?aR (fun _ _ h=>h) (fun _ h=>h.elim) ?aF ?aB ?aS ?aL ?_;(case aR=>repeat(first|exact(by repeat(first|(with_reducible exact z7.out)|(with_reducible refine Kd.C_alloc ?_ _)|(with_reducible refine Kd.C_drewN ?_ _)|(with_reducible refine Kd.C_drew ?_)|exact z7.out))|(with_reducible refine Kd.C_alloc ?_ _)|(with_reducible refine Kd.C_drewN ?_ _)|(with_reducible refine Kd.C_drew ?_)));(case aB=>exact(qB2 HB zm zq));(case aF=>exact(fun k_ hk=>⟨Kd.fresh' (Kd.R_lt (pR za.out)) k_ hk,Kd.fresh' (Kd.R_lt (pR zf.out)) k_ hk,Kd.fresh' (Kd.R_lt (pR zb.out)) k_ hk⟩));(case aO=>exact(by(with_reducible repeat(first|apply rA|apply rN|apply rD));exact Kd.R_mono z6.out (fun _ hk=>⟨hk.1.1.2,⟨hk.1.2,hk.2⟩⟩)));(case aS=>exact(below_size (qB2 HB zm zq)));(case aL=>have:=za0.out;omega);intro v569 w67 ho hb hg hat;rw [← za1.out] at ho;replace zj:=aM (Kd.N_afterv (ok:=(fun k_=>some k_≠(u561000:Value).ownBlock∧some k_≠(u561001:Value).ownBlock∧some k_≠(u561002:Value).ownBlock∧k_≠zo∧k_≠ze)) (by(with_reducible repeat(first|apply Kd.N_alloc|apply Kd.N_drewN|apply Kd.N_drew));exact zj.out) hg hat);replace za:=aM (Kd.R_after (ok:=(fun k_=>some k_≠(u561001:Value).ownBlock∧some k_≠(u561002:Value).ownBlock)) (pR za.out) hg hat);replace zf:=aM (Kd.R_after (ok:=(fun k_=>some k_≠(u561000:Value).ownBlock∧some k_≠(u561002:Value).ownBlock)) (pR zf.out) hg hat);replace zb:=aM (Kd.R_after (ok:=(fun k_=>some k_≠(u561000:Value).ownBlock∧some k_≠(u561001:Value).ownBlock)) (pR zb.out) hg hat);replace zc:=aM (blk_grown (g:=zo) (pK zc.out) hg (Kd.R_ne z6.out zc.out (by decide)));replace zd:=aM (blk_grown (g:=ze) (pK zd.out) hg (Kd.R_ne z6.out zd.out (by decide)));replace HL567_0:=aM (Kd.V_afterv (ok:=(fun k_=>some k_≠(.slice (some yf) zn.length z8:Value).ownBlock∧some k_≠(u561000:Value).ownBlock∧some k_≠(u561001:Value).ownBlock∧some k_≠(u561002:Value).ownBlock∧k_≠zo∧k_≠ze)) (by(with_reducible repeat(first|apply Kd.V_alloc|apply Kd.V_drewN|apply Kd.V_drew));exact Kd.V_mono HL567_0.out (fun _ hk=>⟨⟨hk.2,⟨hk.1.1.1,⟨hk.1.1.2.1,⟨hk.1.1.2.2.1,⟨hk.1.1.2.2.2.1,hk.1.1.2.2.2.2⟩⟩⟩⟩⟩,hk.1.2⟩)) hg hat);replace HB:=aM (hb);have zi:=aM (ho);clear z6;clear ho hb hg hat))
 replace zj:=aM (Kd.N_drew zj.out)
 replace za:=aM (Kd.R_drew za.out)
 replace zf:=aM (Kd.R_drew zf.out)
 replace zb:=aM (Kd.R_drew zb.out)
 replace HL567_0:=aM (Kd.V_drew HL567_0.out)
 replace zi:=aM (Kd.R_drew zi.out)
 replace zc:=aM (blk_drew zc.out)
 replace zd:=aM (blk_drew zd.out)
 replace HB:=aM (below_drew1 HB.out)
 obtain⟨Ao69,zy,zbe⟩:=Kd.R_slice zi.out
 (first|subst zbe|(injection zbe with f1_ f2_ f3_;have f4_:=f1_.symm;have f5_:=f3_.symm;clear f1_ f2_ f3_;subst f4_;subst f5_))
 obtain⟨yd,⟨⟩,yi,yba,ybb⟩:=zI (Kd.R_reads' zi.out).2.2 a2
 obtain⟨y7,yab,ye,ybc,ybd⟩:=zI HR0.out a2
 have yx:=ye
 obtain rfl:yj=y7:=(by injection yab)
 replace ye:=zW HB ye
 refine sT 9 [] (fun w'=>w'.cell? (yd.add (a2).toNat)=some (.int .i64 (rd zh a2))∧w'.cell? (yj.add (a2).toNat)=some (.int .i64 (rd l0 a2))) fbc.tab20 fbc.bits20 ⟨yi,(zW HB yx)⟩ (fun hHeld HT_ HW_=>?_)
 generalize w67.drew=w68 at zj za zf zb HL567_0 zi zc zd HB yi ye hHeld ⊢
 refine pQ 0 85 9 1 HT_ ?_
 refine pQ 1 86 9 3 HT_ ?_
 refine pQ 2 87 9 7 HT_ ?_
 refine pQ 4 89 9 23 HT_ ?_
 refine pQ 5 90 9 55 HT_ ?_
 refine pQ 6 91 9 119 HT_ ?_
 refine pU2 3 88 9 127 HT_ HW_ hHeld ?_
 refine pU2 7 92 9 255 HT_ HW_ hHeld ?_
 refine pQ 8 93 9 511 HT_ ?_
 refine dN HT_ ?_
 try go_wp2
 replace zj:=aM (Kd.N_drew zj.out)
 replace za:=aM (Kd.R_drew za.out)
 replace zf:=aM (Kd.R_drew zf.out)
 replace zb:=aM (Kd.R_drew zb.out)
 replace HL567_0:=aM (Kd.V_drew HL567_0.out)
 replace zi:=aM (Kd.R_drew zi.out)
 replace zc:=aM (blk_drew zc.out)
 replace zd:=aM (blk_drew zd.out)
 replace HB:=aM (below_drew1 HB.out)
 obtain⟨yas,ybf,yy,p580,q580⟩:=zI (Kd.R_reads' zi.out).2.2 a2
 obtain rfl:yd=yas:=(by injection ybf)
 obtain⟨yat,ybg,yq,p581,q581⟩:=zI HR0.out a2
 have y9:=yq
 obtain rfl:yj=yat:=(by injection ybg)
 replace yq:=zW HB yq
 have p61:0≤(a2:Int):=oD
 have q61:(a2:Int) < ((zh.length:Int):Int):=oD
 obtain⟨yb,co61,zbf,zbg,gl61,cl61,HG61⟩:=Kd.R_form zi.out (by omega)
 (first|cases zbf|(injection zbf with ea_ en_ ec_;(first|subst ea_|(injection ea_ with ea_;subst ea_));subst ec_;clear en_))
 have GB61:=aM zbg
 have GG61:=aM HG61
 clear zbg gl61 HG61
 (first|simp only [add_plain] at yi|skip)
 (first|simp only [add_plain] at yy|skip)
 obtain⟨yac,hf61_0⟩:=Kd.R_celln 0 zi.out (a2:Int) p61 q61
 have HP71:=Kd.R_putn zi.out (a2:Int) (wrap64 ((rd zh a2) - (rd l0 a2)))
 rw [← Ny582.out] at HP71
 have HQ71:=aM HP71
 clear HP71
 refine sT 13 [12] (fun w'=>w'.cell? ⟨yb,(a2).toNat,none⟩=some (.int .i64 (rd zh a2))∧w'.cell? (yj.add (a2).toNat)=some (.int .i64 (rd l0 a2))) fbc.tab23 fbc.bits23 ⟨yy,(zW HB y9)⟩ (fun hHeld HT_ HW_=>?_)
 generalize w68.drew=w70 at zj za zf zb HL567_0 zi zc zd HB GG61 HQ71 hf61_0 yi yy yq yac hHeld ⊢
 refine pQ 0 107 13 1 HT_ ?_
 refine pQ 1 108 13 3 HT_ ?_
 refine pQ 2 109 13 7 HT_ ?_
 refine pQ 3 110 13 15 HT_ ?_
 refine pQ 4 111 13 31 HT_ ?_
 refine pQ 6 113 13 95 HT_ ?_
 refine pQ 7 114 13 223 HT_ ?_
 refine pQ 8 115 13 479 HT_ ?_
 refine pU2 5 112 13 511 HT_ HW_ hHeld ?_
 refine pU2 9 116 13 1023 HT_ HW_ hHeld ?_
 refine pQ 10 117 13 2047 HT_ ?_
 refine pQ 11 118 13 4095 HT_ ?_
 refine last_ (i:=12) (N:=none) (bm 13 8191) rfl rfl (one_of HT_.out (by kernel_rfl)) (by decide) (fun K hK=>?_)
 refine skip_ (w1:=?_) (by rfl) rfl ?_ ?_
 rotate_left
 ·go_simp
  rfl
 refine hK.out _ _ ?_
 clear hK K
 refine dN HT_ ?_
 have n0_:Aside0 (Kd.N (Kd.slice 3 (Kd.int .i64)) 22 (w70.setCell ⟨yb,(a2:Int).toNat,none⟩ (.int .i64 (wrap64 ((rd zh a2) - (rd l0 a2))))) w.heap.size (fun k_=>some k_≠(u561000:Value).ownBlock∧some k_≠(u561001:Value).ownBlock∧some k_≠(u561002:Value).ownBlock∧some k_≠(.slice (some ⟨yb,0,none⟩) zh.length zy:Value).ownBlock∧k_≠zo∧k_≠ze) (.slice (some yf) zn.length z8) zn):=⟨by(with_reducible repeat(first|apply Kd.N_alloc|apply Kd.N_drewN|apply Kd.N_drew));exact Kd.N_mono (Kd.N_far (p:=⟨yb,(a2:Int).toNat,none⟩) (Kd.N_mono zj.out (fun k_ hk=>(⟨hk,fun e_=>hk.2 (by rw [e_];rfl)⟩:_∧k_≠yb))) (fun _ hk=>hk.2) (.int .i64 (wrap64 ((rd zh a2) - (rd l0 a2))))) (fun _ hk=>⟨hk.1.1.1,⟨hk.1.1.2.1,⟨hk.1.1.2.2.1,⟨hk.1.2,⟨hk.1.1.2.2.2.1,hk.1.1.2.2.2.2⟩⟩⟩⟩⟩)⟩
 have n1_:Aside0 (Kd.R (Kd.int .i64) 3 (w70.setCell ⟨yb,(a2:Int).toNat,none⟩ (.int .i64 (wrap64 ((rd zh a2) - (rd l0 a2))))) w.heap.size (fun k_=>some k_≠(u561001:Value).ownBlock∧some k_≠(u561002:Value).ownBlock∧some k_≠(.slice (some ⟨yb,0,none⟩) zh.length zy:Value).ownBlock) u561000 zl):=⟨by(with_reducible repeat(first|apply rA|apply rN|apply rD));exact Kd.R_mono (Kd.R_far (p:=⟨yb,(a2:Int).toNat,none⟩) (Kd.R_mono za.out (fun k_ hk=>(⟨hk,fun e_=>hk.2 (by rw [e_];rfl)⟩:_∧k_≠yb))) (fun _ hk=>hk.2) (.int .i64 (wrap64 ((rd zh a2) - (rd l0 a2))))) (fun _ hk=>⟨hk.1.1.1,⟨hk.1.1.2,hk.1.2⟩⟩)⟩
 have n2_:Aside0 (Kd.R (Kd.int .i64) 3 (w70.setCell ⟨yb,(a2:Int).toNat,none⟩ (.int .i64 (wrap64 ((rd zh a2) - (rd l0 a2))))) w.heap.size (fun k_=>some k_≠(u561000:Value).ownBlock∧some k_≠(u561002:Value).ownBlock∧some k_≠(.slice (some ⟨yb,0,none⟩) zh.length zy:Value).ownBlock) u561001 zk):=⟨by(with_reducible repeat(first|apply rA|apply rN|apply rD));exact Kd.R_mono (Kd.R_far (p:=⟨yb,(a2:Int).toNat,none⟩) (Kd.R_mono zf.out (fun k_ hk=>(⟨hk,fun e_=>hk.2 (by rw [e_];rfl)⟩:_∧k_≠yb))) (fun _ hk=>hk.2) (.int .i64 (wrap64 ((rd zh a2) - (rd l0 a2))))) (fun _ hk=>⟨hk.1.1.1,⟨hk.1.1.2,hk.1.2⟩⟩)⟩
 have n3_:Aside0 (Kd.R (Kd.int .i64) 3 (w70.setCell ⟨yb,(a2:Int).toNat,none⟩ (.int .i64 (wrap64 ((rd zh a2) - (rd l0 a2))))) w.heap.size (fun k_=>some k_≠(u561000:Value).ownBlock∧some k_≠(u561001:Value).ownBlock∧some k_≠(.slice (some ⟨yb,0,none⟩) zh.length zy:Value).ownBlock) u561002 zg):=⟨by(with_reducible repeat(first|apply rA|apply rN|apply rD));exact Kd.R_mono (Kd.R_far (p:=⟨yb,(a2:Int).toNat,none⟩) (Kd.R_mono zb.out (fun k_ hk=>(⟨hk,fun e_=>hk.2 (by rw [e_];rfl)⟩:_∧k_≠yb))) (fun _ hk=>hk.2) (.int .i64 (wrap64 ((rd zh a2) - (rd l0 a2))))) (fun _ hk=>⟨hk.1.1.1,⟨hk.1.1.2,hk.1.2⟩⟩)⟩
 have n4_:Aside0 (Kd.V (Kd.int .i64) 3 (w70.setCell ⟨yb,(a2:Int).toNat,none⟩ (.int .i64 (wrap64 ((rd zh a2) - (rd l0 a2))))) w.heap.size (fun k_=>some k_≠(.slice (some yf) zn.length z8:Value).ownBlock∧some k_≠(u561000:Value).ownBlock∧some k_≠(u561001:Value).ownBlock∧some k_≠(u561002:Value).ownBlock∧some k_≠(.slice (some ⟨yb,0,none⟩) zh.length zy:Value).ownBlock∧k_≠zo∧k_≠ze) (.slice yu (rd_L1 zn ya).length yv) (rd_L1 zn ya)):=⟨by(with_reducible repeat(first|apply Kd.V_alloc|apply Kd.V_drewN|apply Kd.V_drew));exact Kd.V_mono (Kd.V_far (p:=⟨yb,(a2:Int).toNat,none⟩) (Kd.V_mono HL567_0.out (fun k_ hk=>(⟨hk,fun e_=>hk.2 (by rw [e_];rfl)⟩:_∧k_≠yb))) (fun _ hk=>hk.2) (.int .i64 (wrap64 ((rd zh a2) - (rd l0 a2))))) (fun _ hk=>⟨hk.1.1.1,⟨hk.1.1.2.1,⟨hk.1.1.2.2.1,⟨hk.1.1.2.2.2.1,⟨hk.1.2,⟨hk.1.1.2.2.2.2.1,hk.1.1.2.2.2.2.2⟩⟩⟩⟩⟩⟩)⟩
 have n5_:Aside0 (Kd.R (Kd.int .i64) 3 (w70.setCell ⟨yb,(a2:Int).toNat,none⟩ (.int .i64 (wrap64 ((rd zh a2) - (rd l0 a2))))) w.heap.size (fun k_=>some k_≠(u561000:Value).ownBlock∧some k_≠(u561001:Value).ownBlock∧some k_≠(u561002:Value).ownBlock) (.slice (some ⟨yb,0,none⟩) zh.length zy) zad):=⟨pR HQ71.out⟩
 have n6_:Aside0 ((w70.setCell ⟨yb,(a2:Int).toNat,none⟩ (.int .i64 (wrap64 ((rd zh a2) - (rd l0 a2))))).heap[zo]?=some (.cells #[.slice none 0 0,.slice none 0 0,.slice none 0 0] 32 (0,0))):=⟨by(with_reducible repeat(first|apply bN|apply bD|apply bA));refine blk_far ?_ (by have h_:=Kd.R_ne zi.out zc.out (by decide);intro e_;exact h_ (by rw [e_];rfl)) _;(with_reducible repeat(first|apply bN|apply bD|apply bA));exact zc.out⟩
 have n7_:Aside0 ((w70.setCell ⟨yb,(a2:Int).toNat,none⟩ (.int .i64 (wrap64 ((rd zh a2) - (rd l0 a2))))).heap[ze]?=some (.cells #[u561000,u561001,u561002] 32 (0,0))):=⟨by(with_reducible repeat(first|apply bN|apply bD|apply bA));refine blk_far ?_ (by have h_:=Kd.R_ne zi.out zd.out (by decide);intro e_;exact h_ (by rw [e_];rfl)) _;(with_reducible repeat(first|apply bN|apply bD|apply bA));exact zd.out⟩
 have n8_:Aside0 (Below w.heap.size w (w70.setCell ⟨yb,(a2:Int).toNat,none⟩ (.int .i64 (wrap64 ((rd zh a2) - (rd l0 a2)))))):=⟨qB3 HB GB61 zm zq⟩
 (try clear zj)
 (try clear za)
 (try clear zf)
 (try clear zb)
 (try clear HL567_0)
 (try clear zi)
 (try clear zc)
 (try clear zd)
 (try clear HB)
 generalize (w70.setCell ⟨yb,(a2:Int).toNat,none⟩ (.int .i64 (wrap64 ((rd zh a2) - (rd l0 a2)))))=w72 at n0_ n1_ n2_ n3_ n4_ n5_ n6_ n7_ n8_ ⊢
 have zj:=n0_
 have za:=n1_
 have zf:=n2_
 have zb:=n3_
 have HL567_0:=n4_
 have zi:=n5_
 have zc:=n6_
 have zd:=n7_
 have HB:=n8_
 clear n0_ n1_ n2_ n3_ n4_ n5_ n6_ n7_ n8_
 have hnb73:=zx.out
 have hnc73:=zp.out
 have hcz74:=blk3 zd.out
 try go_wp2_with (first|((with_reducible refine gate_builtin (b:=.append) (xs:=#[.tmp 120,.tmp 121]) rfl ?_);(try (refine gate_guard (by rfl) ?_;dsimp only));at_builtin;refine Kd.R_append (Kd.int .i64) (w0:=w) w.heap.size rfl (.tmp 120) (.tmp 121) 22 3 (.int .i64 0) 8 rfl Try.underlying22 info3 rfl (by decide) (by omega) u561001 zk 1 [.int .i64 1] (fun k_=>some k_≠(u561000:Value).ownBlock∧some k_≠(u561002:Value).ownBlock∧some k_≠(.slice (some ⟨yb,0,none⟩) zh.length zy:Value).ownBlock) (fun _=>False) rfl rfl ?aP (fun _ hk=>hk.elim) ?aF ?aO ?aB ?aS ?aL ?_;(case aP=>exact rfl);(case aB=>exact(qB2 HB zm zq));(case aF=>exact(fun k_ hk=>⟨Kd.fresh' (Kd.R_lt (pR za.out)) k_ hk,Kd.fresh' (Kd.R_lt (pR zb.out)) k_ hk,Kd.fresh' (Kd.R_lt (pR zi.out)) k_ hk⟩));(case aO=>exact(pR zf.out));(case aS=>exact(below_size (qB2 HB zm zq)));(case aL=>have:=LMc62.out;omega);intro v584 w75 ho hb hg hat;rw [← Ny583.out] at ho;replace zj:=aM (Kd.N_afterv (ok:=(fun k_=>some k_≠(u561000:Value).ownBlock∧some k_≠(u561002:Value).ownBlock∧some k_≠(.slice (some ⟨yb,0,none⟩) zh.length zy:Value).ownBlock∧k_≠zo∧k_≠ze)) (by(with_reducible repeat(first|apply Kd.N_alloc|apply Kd.N_drewN|apply Kd.N_drew));exact Kd.N_mono zj.out (fun _ hk=>⟨⟨hk.1,⟨hk.2.2.1,⟨hk.2.2.2.1,⟨hk.2.2.2.2.1,hk.2.2.2.2.2⟩⟩⟩⟩,hk.2.1⟩)) hg hat);replace za:=aM (Kd.R_after (ok:=(fun k_=>some k_≠(u561002:Value).ownBlock∧some k_≠(.slice (some ⟨yb,0,none⟩) zh.length zy:Value).ownBlock)) (by(with_reducible repeat(first|apply rA|apply rN|apply rD));exact Kd.R_mono za.out (fun _ hk=>⟨⟨hk.2.1,hk.2.2⟩,hk.1⟩)) hg hat);replace zb:=aM (Kd.R_after (ok:=(fun k_=>some k_≠(u561000:Value).ownBlock∧some k_≠(.slice (some ⟨yb,0,none⟩) zh.length zy:Value).ownBlock)) (by(with_reducible repeat(first|apply rA|apply rN|apply rD));exact Kd.R_mono zb.out (fun _ hk=>⟨⟨hk.1,hk.2.2⟩,hk.2.1⟩)) hg hat);replace zc:=aM (blk_grown (g:=zo) (pK zc.out) hg (Kd.R_ne zf.out zc.out (by decide)));replace zd:=aM (blk_grown (g:=ze) (pK zd.out) hg (Kd.R_ne zf.out zd.out (by decide)));replace HL567_0:=aM (Kd.V_afterv (ok:=(fun k_=>some k_≠(.slice (some yf) zn.length z8:Value).ownBlock∧some k_≠(u561000:Value).ownBlock∧some k_≠(u561002:Value).ownBlock∧some k_≠(.slice (some ⟨yb,0,none⟩) zh.length zy:Value).ownBlock∧k_≠zo∧k_≠ze)) (by(with_reducible repeat(first|apply Kd.V_alloc|apply Kd.V_drewN|apply Kd.V_drew));exact Kd.V_mono HL567_0.out (fun _ hk=>⟨⟨hk.1,⟨hk.2.1,⟨hk.2.2.2.1,⟨hk.2.2.2.2.1,⟨hk.2.2.2.2.2.1,hk.2.2.2.2.2.2⟩⟩⟩⟩⟩,hk.2.2.1⟩)) hg hat);replace zi:=aM (Kd.R_after (ok:=(fun k_=>some k_≠(u561000:Value).ownBlock∧some k_≠(u561002:Value).ownBlock)) (by(with_reducible repeat(first|apply rA|apply rN|apply rD));exact Kd.R_mono zi.out (fun _ hk=>⟨⟨hk.1,hk.2.2⟩,hk.2.1⟩)) hg hat);replace HB:=aM (hb);have z0:=aM (ho);clear zf;clear ho hb hg hat;obtain⟨zv,zw,ybh⟩:=Kd.R_slice z0.out;subst ybh;have hcz77:=blk3 zd.out))
 have n0_:Aside0 (Kd.N (Kd.slice 3 (Kd.int .i64)) 22 (w75.setCell ⟨ze,1,none⟩ (.slice zv zs.length zw)) w.heap.size (fun k_=>some k_≠(u561000:Value).ownBlock∧some k_≠(u561002:Value).ownBlock∧some k_≠(.slice (some ⟨yb,0,none⟩) zh.length zy:Value).ownBlock∧some k_≠(.slice zv zs.length zw:Value).ownBlock∧k_≠zo∧k_≠ze) (.slice (some yf) zn.length z8) zn):=⟨by(with_reducible repeat(first|apply Kd.N_alloc|apply Kd.N_drewN|apply Kd.N_drew));exact Kd.N_mono (Kd.N_far (p:=⟨ze,1,none⟩) (Kd.N_mono zj.out (fun k_ hk=>(⟨hk,hk.1.2.2.2.2⟩:_∧k_≠ze))) (fun _ hk=>hk.2) (.slice zv zs.length zw)) (fun _ hk=>⟨hk.1.1.1,⟨hk.1.1.2.1,⟨hk.1.1.2.2.1,⟨hk.1.2,⟨hk.1.1.2.2.2.1,hk.1.1.2.2.2.2⟩⟩⟩⟩⟩)⟩
 have n1_:Aside0 (Kd.R (Kd.int .i64) 3 (w75.setCell ⟨ze,1,none⟩ (.slice zv zs.length zw)) w.heap.size (fun k_=>some k_≠(u561002:Value).ownBlock∧some k_≠(.slice (some ⟨yb,0,none⟩) zh.length zy:Value).ownBlock∧some k_≠(.slice zv zs.length zw:Value).ownBlock) u561000 zl):=⟨by(with_reducible repeat(first|apply rA|apply rN|apply rD));exact Kd.R_mono (Kd.R_far (p:=⟨ze,1,none⟩) (Kd.R_types za.out zd.out (by decide)) (fun _ hk=>hk.2) (.slice zv zs.length zw)) (fun _ hk=>⟨hk.1.1.1,⟨hk.1.1.2,hk.1.2⟩⟩)⟩
 have n2_:Aside0 (Kd.R (Kd.int .i64) 3 (w75.setCell ⟨ze,1,none⟩ (.slice zv zs.length zw)) w.heap.size (fun k_=>some k_≠(u561000:Value).ownBlock∧some k_≠(.slice (some ⟨yb,0,none⟩) zh.length zy:Value).ownBlock∧some k_≠(.slice zv zs.length zw:Value).ownBlock) u561002 zg):=⟨by(with_reducible repeat(first|apply rA|apply rN|apply rD));exact Kd.R_mono (Kd.R_far (p:=⟨ze,1,none⟩) (Kd.R_types zb.out zd.out (by decide)) (fun _ hk=>hk.2) (.slice zv zs.length zw)) (fun _ hk=>⟨hk.1.1.1,⟨hk.1.1.2,hk.1.2⟩⟩)⟩
 have n3_:Aside0 (Kd.V (Kd.int .i64) 3 (w75.setCell ⟨ze,1,none⟩ (.slice zv zs.length zw)) w.heap.size (fun k_=>some k_≠(.slice (some yf) zn.length z8:Value).ownBlock∧some k_≠(u561000:Value).ownBlock∧some k_≠(u561002:Value).ownBlock∧some k_≠(.slice (some ⟨yb,0,none⟩) zh.length zy:Value).ownBlock∧some k_≠(.slice zv zs.length zw:Value).ownBlock∧k_≠zo∧k_≠ze) (.slice yu (rd_L1 zn ya).length yv) (rd_L1 zn ya)):=⟨by(with_reducible repeat(first|apply Kd.V_alloc|apply Kd.V_drewN|apply Kd.V_drew));exact Kd.V_mono (Kd.V_far (p:=⟨ze,1,none⟩) (Kd.V_mono HL567_0.out (fun k_ hk=>(⟨hk,hk.1.2.2.2.2.2⟩:_∧k_≠ze))) (fun _ hk=>hk.2) (.slice zv zs.length zw)) (fun _ hk=>⟨hk.1.1.1,⟨hk.1.1.2.1,⟨hk.1.1.2.2.1,⟨hk.1.1.2.2.2.1,⟨hk.1.2,⟨hk.1.1.2.2.2.2.1,hk.1.1.2.2.2.2.2⟩⟩⟩⟩⟩⟩)⟩
 have n4_:Aside0 (Kd.R (Kd.int .i64) 3 (w75.setCell ⟨ze,1,none⟩ (.slice zv zs.length zw)) w.heap.size (fun k_=>some k_≠(u561000:Value).ownBlock∧some k_≠(u561002:Value).ownBlock∧some k_≠(.slice zv zs.length zw:Value).ownBlock) (.slice (some ⟨yb,0,none⟩) zh.length zy) zad):=⟨by(with_reducible repeat(first|apply rA|apply rN|apply rD));exact Kd.R_mono (Kd.R_far (p:=⟨ze,1,none⟩) (Kd.R_types zi.out zd.out (by decide)) (fun _ hk=>hk.2) (.slice zv zs.length zw)) (fun _ hk=>⟨hk.1.1.1,⟨hk.1.1.2,hk.1.2⟩⟩)⟩
 have n5_:Aside0 (Kd.R (Kd.int .i64) 3 (w75.setCell ⟨ze,1,none⟩ (.slice zv zs.length zw)) w.heap.size (fun k_=>some k_≠(u561000:Value).ownBlock∧some k_≠(u561002:Value).ownBlock∧some k_≠(.slice (some ⟨yb,0,none⟩) zh.length zy:Value).ownBlock) (.slice zv zs.length zw) zs):=⟨by(with_reducible repeat(first|apply rA|apply rN|apply rD));exact Kd.R_mono (Kd.R_far (p:=⟨ze,1,none⟩) (Kd.R_types z0.out zd.out (by decide)) (fun _ hk=>hk.2) (.slice zv zs.length zw)) (fun _ hk=>⟨hk.1.1,⟨hk.1.2.1,hk.1.2.2⟩⟩)⟩
 have n6_:Aside0 ((w75.setCell ⟨ze,1,none⟩ (.slice zv zs.length zw)).heap[zo]?=some (.cells #[.slice none 0 0,.slice none 0 0,.slice none 0 0] 32 (0,0))):=⟨by(with_reducible repeat(first|apply bN|apply bD|apply bA));refine blk_far ?_ zp.out _;(with_reducible repeat(first|apply bN|apply bD|apply bA));exact zc.out⟩
 have n7_:Aside0 ((w75.setCell ⟨ze,1,none⟩ (.slice zv zs.length zw)).heap[ze]?=some (.cells #[u561000,.slice zv zs.length zw,u561002] 32 (0,0))):=⟨by(with_reducible repeat(first|apply bN|apply bD|apply bA));refine blk_put (cs:=#[u561000,u561001,u561002]) ?_ 1 _ rfl;(with_reducible repeat(first|apply bN|apply bD|apply bA));exact zd.out⟩
 have n8_:Aside0 (Below w.heap.size w (w75.setCell ⟨ze,1,none⟩ (.slice zv zs.length zw))):=⟨qB2 HB zm zq⟩
 (try clear zj)
 (try clear za)
 (try clear zb)
 (try clear HL567_0)
 (try clear zi)
 (try clear z0)
 (try clear zc)
 (try clear zd)
 (try clear HB)
 generalize (w75.setCell ⟨ze,1,none⟩ (.slice zv zs.length zw))=w78 at n0_ n1_ n2_ n3_ n4_ n5_ n6_ n7_ n8_ ⊢
 have zj:=n0_
 have za:=n1_
 have zb:=n2_
 have HL567_0:=n3_
 have zi:=n4_
 have z0:=n5_
 have zc:=n6_
 have zd:=n7_
 have HB:=n8_
 clear n0_ n1_ n2_ n3_ n4_ n5_ n6_ n7_ n8_
 replace zj:=aM (Kd.N_drew zj.out)
 replace za:=aM (Kd.R_drew za.out)
 replace zb:=aM (Kd.R_drew zb.out)
 replace HL567_0:=aM (Kd.V_drew HL567_0.out)
 replace zi:=aM (Kd.R_drew zi.out)
 replace z0:=aM (Kd.R_drew z0.out)
 replace zc:=aM (blk_drew zc.out)
 replace zd:=aM (blk_drew zd.out)
 replace HB:=aM (below_drew1 HB.out)
 refine sT 9 [8] (fun w'=>w'.cell? ⟨ze,0,none⟩=some (u561000)∧w'.cell? ⟨ze,1,none⟩=some (.slice zv zs.length zw)∧w'.cell? ⟨ze,2,none⟩=some (u561002)) fbc.tab25 fbc.bits25 (h3 zd) (fun hHeld HT_ HW_=>?_)
 generalize w78.drew=w79 at zj za zb HL567_0 zi z0 zc zd HB hHeld ⊢
 refine pQ 0 124 9 1 HT_ ?_
 refine pQ 2 126 9 5 HT_ ?_
 refine pQ 3 127 9 13 HT_ ?_
 refine pU3 1 125 9 15 HT_ HW_ hHeld ?_
 refine oN 4 128 9 31 HT_ (fun K hK=>?_)
 refine goes_ Try.func64 (by kernel_rfl) rfl #[.slice (some y2) l1.length c1,.slice (some ⟨yb,0,none⟩) zad.length zy] (by rfl) rfl rfl (by(try simp only [List.map_toArray,List.map_cons,List.map_nil]);first|done|(rw [show zad.length=zh.length from (Kd.R_reads' zi.out).1.symm] <;> rfl)|rfl|(simp only [List.length_drop,List.length_take];rfl)) ?_
 with_reducible refine(fan.calls k3 _ _ l1 _ _ zad z5 _ ?s1 HC1.out ?s3 ?s4 A63.out).mono ?_
 (case s1=>exact sC HR1 HB)
 (case s3=>exact sR zi)
 (case s4=>rw [show zad.length=zh.length from (Kd.R_reads' zi.out).1.symm];exact sL zi)
 rintro e w80 ⟨rfl,hb⟩
 refine⟨_,rfl,?_⟩
 replace zj:=aM (Kd.N_below (by(with_reducible repeat(first|apply Kd.N_alloc|apply Kd.N_drewN|apply Kd.N_drew));exact zj.out) hb)
 replace za:=bR za hb
 replace zb:=bR zb hb
 replace HL567_0:=aM (Kd.V_below (pV HL567_0.out) hb)
 replace zi:=bR zi hb
 replace z0:=bR z0 hb
 replace zc:=bK zc hb
 replace zd:=bK zd hb
 replace HB:=bS (qB2 HB zm zq) hb
 (try clear hb)
 (try clear hk)
 refine hK.out _ _ (h3 zd) (fun hHeld=>?_)
 clear hK K
 refine norm_ (a':=?_) ?_ ?_
 rotate_left
 ·show Act.put _ (some 128) _=_
  simp only [Act.put,sP,i64_w,i32_w]
  rfl
 refine oN 5 129 9 63 HT_ (fun K hK=>?_)
 refine value_ (w1:=?_) (v:=?_) (by rfl) rfl ?_ ?_
 rotate_left 2
 ·go_simp
  constructor
  ·rfl
  ·rfl
 refine hK.out _ _ ⟨(blk_cell (blk_alloc zd.out _) 0).trans rfl,(blk_cell (blk_alloc zd.out _) 1).trans rfl,(blk_cell (blk_alloc zd.out _) 2).trans rfl⟩ (fun hHeld=>?_)
 clear hK K
 refine norm_ (a':=?_) ?_ ?_
 rotate_left
 ·show Act.put _ (some 129) _=_
  simp only [Act.put,sP,i64_w,i32_w]
  rfl
 refine oN 6 130 9 127 HT_ (fun K hK=>?_)
 refine Kd.R_append_step (Kd.int .i64) (w0:=w) w.heap.size (by rfl) (.tmp 125) (.tmp 129) 22 3 (.int .i64 0) 8 rfl Try.underlying22 info3 rfl (by decide) (by omega) u561002 zg z5 [.int .i64 z5] (fun k_=>some k_≠(u561000:Value).ownBlock∧some k_≠(.slice (some ⟨yb,0,none⟩) zh.length zy:Value).ownBlock∧some k_≠(.slice zv zs.length zw:Value).ownBlock) (fun _=>False) rfl rfl ?aP (fun _ hk=>hk.elim) ?aF ?aO ?aB ?aS ?aL ?_
 (case aP=>exact rfl)
 (case aB=>exact(qB2 HB zm zq))
 (case aF=>exact(fun k_ hk=>⟨Kd.fresh' (Kd.R_lt (pR za.out)) k_ hk,Kd.fresh' (Kd.R_lt (pR zi.out)) k_ hk,Kd.fresh' (Kd.R_lt (pR z0.out)) k_ hk⟩))
 (case aO=>exact(pR zb.out))
 (case aS=>exact(below_size (qB2 HB zm zq)))
 (case aL=>have:=LMc64.out;omega)
 intro v588 w81 ho hb hg hat
 rw [← Ny587.out] at ho
 replace zj:=aM (Kd.N_afterv (ok:=(fun k_=>some k_≠(u561000:Value).ownBlock∧some k_≠(.slice (some ⟨yb,0,none⟩) zh.length zy:Value).ownBlock∧some k_≠(.slice zv zs.length zw:Value).ownBlock∧k_≠zo∧k_≠ze)) (by(with_reducible repeat(first|apply Kd.N_alloc|apply Kd.N_drewN|apply Kd.N_drew));exact Kd.N_mono zj.out (fun _ hk=>⟨⟨hk.1,⟨hk.2.2.1,⟨hk.2.2.2.1,⟨hk.2.2.2.2.1,hk.2.2.2.2.2⟩⟩⟩⟩,hk.2.1⟩)) hg hat)
 replace za:=aM (Kd.R_after (ok:=(fun k_=>some k_≠(.slice (some ⟨yb,0,none⟩) zh.length zy:Value).ownBlock∧some k_≠(.slice zv zs.length zw:Value).ownBlock)) (by(with_reducible repeat(first|apply rA|apply rN|apply rD));exact Kd.R_mono za.out (fun _ hk=>⟨⟨hk.2.1,hk.2.2⟩,hk.1⟩)) hg hat)
 replace zc:=aM (blk_grown (g:=zo) (pK zc.out) hg (Kd.R_ne zb.out zc.out (by decide)))
 replace zd:=aM (blk_grown (g:=ze) (pK zd.out) hg (Kd.R_ne zb.out zd.out (by decide)))
 replace HL567_0:=aM (Kd.V_afterv (ok:=(fun k_=>some k_≠(.slice (some yf) zn.length z8:Value).ownBlock∧some k_≠(u561000:Value).ownBlock∧some k_≠(.slice (some ⟨yb,0,none⟩) zh.length zy:Value).ownBlock∧some k_≠(.slice zv zs.length zw:Value).ownBlock∧k_≠zo∧k_≠ze)) (by(with_reducible repeat(first|apply Kd.V_alloc|apply Kd.V_drewN|apply Kd.V_drew));exact Kd.V_mono HL567_0.out (fun _ hk=>⟨⟨hk.1,⟨hk.2.1,⟨hk.2.2.2.1,⟨hk.2.2.2.2.1,⟨hk.2.2.2.2.2.1,hk.2.2.2.2.2.2⟩⟩⟩⟩⟩,hk.2.2.1⟩)) hg hat)
 replace zi:=aM (Kd.R_after (ok:=(fun k_=>some k_≠(u561000:Value).ownBlock∧some k_≠(.slice zv zs.length zw:Value).ownBlock)) (by(with_reducible repeat(first|apply rA|apply rN|apply rD));exact Kd.R_mono zi.out (fun _ hk=>⟨⟨hk.1,hk.2.2⟩,hk.2.1⟩)) hg hat)
 replace z0:=aM (Kd.R_after (ok:=(fun k_=>some k_≠(u561000:Value).ownBlock∧some k_≠(.slice (some ⟨yb,0,none⟩) zh.length zy:Value).ownBlock)) (by(with_reducible repeat(first|apply rA|apply rN|apply rD));exact Kd.R_mono z0.out (fun _ hk=>⟨⟨hk.1,hk.2.2⟩,hk.2.1⟩)) hg hat)
 replace HB:=aM (hb)
 have za3:=aM (ho)
 clear zb
 clear ho hb hg hat
 obtain⟨zau,zav,zbh⟩:=Kd.R_slice za3.out
 (first|subst zbh|(injection zbh with f1_ f2_ f3_;have f4_:=f1_.symm;have f5_:=f3_.symm;clear f1_ f2_ f3_;subst f4_;subst f5_))
 refine hK.out _ _ (h3 zd) (fun hHeld=>?_)
 clear hK K
 refine norm_ (a':=?_) ?_ ?_
 rotate_left
 ·show Act.put _ (some 130) _=_
  simp only [Act.put,sP,i64_w,i32_w]
  rfl
 refine pQ 7 131 9 255 HT_ ?_
 refine last_ (i:=8) (N:=none) (bm 9 511) rfl rfl (one_of HT_.out (by kernel_rfl)) (by decide) (fun K hK=>?_)
 have hs83:w81.cell? ⟨ze,2,none⟩=some (u561002):=(blk_cell zd.out 2).trans rfl
 have hfs83:=blk_frozen zd.out 2
 have hns83_0:=zp.out
 have hms83_0:=zx.out
 refine skip_ (w1:=?_) (by rfl) rfl ?_ ?_
 rotate_left
 ·go_simp
  rfl
 refine hK.out _ _ ?_
 clear hK K
 refine dN HT_ ?_
 try go_wp2
 go_roundg k3
 case measure=>have:=HJ3.out;have:=HK2.out;have:=HK3.out;omega
 case rel=>exact⟨(wrap64 (ya + 1)),(zl),(zs),(zag),(u561000),(.slice zv zs.length zw),(.slice zau zag.length zav),(pF),H',⟨by have:=HJ3.out;have:=HK2.out;have:=HK3.out;omega⟩,⟨by(with_reducible repeat(first|apply Kd.N_alloc|apply Kd.N_drewN|apply Kd.N_drew));exact Kd.N_mono (Kd.N_far (p:=⟨ze,2,none⟩) (Kd.N_mono zj.out (fun k_ hk=>(⟨hk,hk.1.2.2.2.2⟩:_∧k_≠ze))) (fun _ hk=>hk.2) (.slice zau zag.length zav)) (fun _ hk=>⟨hk.1.1.1,⟨hk.1.1.2.2.1,⟨hk.1.2,⟨hk.1.1.2.2.2.1,hk.1.1.2.2.2.2⟩⟩⟩⟩)⟩,⟨by(with_reducible repeat(first|apply rA|apply rN|apply rD));exact Kd.R_mono (Kd.R_far (p:=⟨ze,2,none⟩) (Kd.R_types za.out zd.out (by decide)) (fun _ hk=>hk.2) (.slice zau zag.length zav)) (fun _ hk=>⟨hk.1.1.2,hk.1.2⟩)⟩,⟨by(with_reducible repeat(first|apply rA|apply rN|apply rD));exact Kd.R_mono (Kd.R_far (p:=⟨ze,2,none⟩) (Kd.R_types z0.out zd.out (by decide)) (fun _ hk=>hk.2) (.slice zau zag.length zav)) (fun _ hk=>⟨hk.1.1.1,hk.1.2⟩)⟩,⟨by(with_reducible repeat(first|apply rA|apply rN|apply rD));exact Kd.R_mono (Kd.R_far (p:=⟨ze,2,none⟩) (Kd.R_types za3.out zd.out (by decide)) (fun _ hk=>hk.2) (.slice zau zag.length zav)) (fun _ hk=>⟨hk.1.1,hk.1.2.2⟩)⟩,⟨by(with_reducible repeat(first|apply bN|apply bD|apply bA));refine blk_far ?_ zp.out _;(with_reducible repeat(first|apply bN|apply bD|apply bA));exact zc.out⟩,⟨by(with_reducible repeat(first|apply bN|apply bD|apply bA));refine blk_put (cs:=#[u561000,.slice zv zs.length zw,u561002]) ?_ 2 _ rfl;(with_reducible repeat(first|apply bN|apply bD|apply bA));exact zd.out⟩,⟨qB2 HB zm zq⟩⟩
mutual
def fbd.l0:Nat→List Int→List Int→Int→Int→Int→Int→Int→Int→Int→Int→Int→Int→Bool→List Int→Option (List Int×List Int×List Int×Int)
 | 0,_,_,_,_,_,_,_,_,_,_,_,_,_,_=>none
 | k + 1,x0,x6,x38,x39,zs,z0,z5,z6,z7,z8,z9,zaa,zab,zv=>if x39 < x38 then(if 0≤x39 then(if x39 < (zv.length:Int)then(if(rd zv x39) < 0 then(some (([]:List Int),([]:List Int),([]:List Int),11))else(if(rd zv x39) ≥ z0 then(some (([]:List Int),([]:List Int),([]:List Int),11))else(fbd.l0 k x0 x6 x38 (wrap64 (x39 + 1)) zs z0 z5 z6 z7 z8 z9 zaa zab zv)))else(none))else(none))else((fam.f k x0).bind fun zm=>(fbd.l1 k x0 zm (zm.length:Int) 0 zs z0 z5 z6 z7 z8 z9 zaa zab zv x6 ([]:List Int)))
def fbd.l1:Nat→List Int→List (List Int)→Int→Int→Int→Int→Int→Int→Int→Int→Int→Int→Bool→List Int→List Int→List Int→Option (List Int×List Int×List Int×Int)
 | 0,_,_,_,_,_,_,_,_,_,_,_,_,_,_,_,_=>none
 | k + 1,x0,x10,x65,x66,zs,z0,z5,z6,z7,z8,z9,zaa,zab,zv,zae,zaf=>if x66 < x65 then((some (([]:List Int):List Int)).bind fun zag=>(if 0≤x66 then(if x66 < (x10.length:Int)then(if zag.length + (rd_L1 x10 x66).length < 17592186044416 then((some (zag ++ (rd_L1 x10 x66):List Int)).bind fun zg=>(if 0≤zs then(if zs < (zg.length:Int)then(if 0≤(rd zg zs)then(if(rd zg zs) < (zv.length:Int)then((fan.f k zae (zg.set (zs:Int).toNat (rd zv (rd zg zs)))).bind fun z4=>(if zaf.length < 17592186044416 then(fbd.l1 k x0 x10 x65 (wrap64 (x66 + 1)) zs z0 z5 z6 z7 z8 z9 zaa zab zv zae (zaf ++ [z4]))else(none)))else(none))else(none))else(none))else(none)))else(none))else(none))else(none)))else(some (zae,([]:List Int),zaf,0))
end
def fbd.f (k:Nat) (l0:List Int) (ya:Int) (ye:Int) (yg:Int) (yh:Int) (yi:Int) (yj:Int) (yk:Int) (yl:Int) (ym:Bool) (yb:List Int):Option (List Int×List Int×List Int×Int):=(fal.f k l0 ya ye).bind fun bt526=>(if bt526.2=0 then(if 0≤ya then(if ya < (l0.length:Int)then(if(yb.length:Int)=(rd l0 ya)then(fbd.l0 k l0 bt526.1 (yb.length:Int) 0 ya ye yg yh yi yj yk yl ym yb)else(some (([]:List Int),([]:List Int),([]:List Int),8)))else(none))else(none))else(some (([]:List Int),([]:List Int),([]:List Int),bt526.2)))
def fbd.T4:TT:=(true,[([],[]),([0],[0]),([1],[1]),([],[]),([],[]),([4],[4]),([3,5],[3,5]),([6],[6]),([2,7],[2,7])])
def fbd.B4:List Nat:=[0,1,3,0,0,16,56,120,255]
theorem fbd.tab4:rtab .any (opsOf Try.f36 4)=fbd.T4:=by kernel_rfl
theorem fbd.bits4:waitsOk fbd.T4.2 fbd.B4=true:=by kernel_rfl
def fbd.T9:TT:=(true,[([],[]),([0],[0]),([],[]),([1,2],[1,2]),([3],[3]),([4],[4]),([5],[5]),([6],[6]),([7,6],[6,7]),([6],[6]),([8,9,6],[6,8,9]),([10,6],[6,10]),([6],[6]),([12,6],[6,12]),([11,13,6],[6,11,13]),([6,14],[6,14])])
def fbd.B9:List Nat:=[0,1,0,7,15,31,63,127,255,127,1023,2047,127,4223,16383,32767]
theorem fbd.tab9:rtab .any (opsOf Try.f36 9)=fbd.T9:=by kernel_rfl
theorem fbd.bits9:waitsOk fbd.T9.2 fbd.B9=true:=by kernel_rfl
def fbd.T18:TT:=(true,[([],[]),([],[]),([1],[1]),([],[]),([3],[3]),([],[]),([],[]),([6],[6]),([5,7],[5,7]),([8],[8]),([4,9],[4,9]),([10],[10]),([0,2,0,1,2,3,4,5,6,7,8,9,10,11],[0,2]),([12,11,0,1,2,3,4,5,6,7,8,9,10,11],[11,12])])
def fbd.B18:List Nat:=[0,0,2,0,8,0,0,64,224,480,1016,2040,4095,8191]
theorem fbd.tab18:rtab .any (opsOf Try.f36 18)=fbd.T18:=by kernel_rfl
theorem fbd.bits18:waitsOk fbd.T18.2 fbd.B18=true:=by kernel_rfl
def fbd.T19:TT:=(true,[([],[]),([0],[0]),([],[]),([],[]),([2,3],[2,3]),([4],[4]),([1,5,4],[1,5]),([0,1,2,3,4,5,6],[]),([7,6,6,0,1,2,3,4,5,6],[6,7])])
def fbd.B19:List Nat:=[0,1,0,0,12,28,63,127,255]
theorem fbd.tab19:rtab .any (opsOf Try.f36 19)=fbd.T19:=by kernel_rfl
theorem fbd.bits19:waitsOk fbd.T19.2 fbd.B19=true:=by kernel_rfl
theorem fbd.calls (k:Nat)(A0:Option Addr)(c0:Nat)(l0:List Int) (ya:Int) (ye:Int) (yg:Int) (yh:Int) (yi:Int) (yj:Int) (yk:Int) (yl:Int)(ym:Bool)(yu:Option Addr)(yq:Nat)(yb:List Int)(r1:List Int)(r2:List Int)(r3:List Int) (r4:Int)(w:World)(hr0:Kd.C (Kd.int .i64) w A0 l0.length l0)(hc0:l0.length≤c0)(y7:Kd.C (Kd.int .i64) w yu yb.length yb)(y8:yb.length≤yq)(h:fbd.f k l0 ya ye yg yh yi yj yk yl ym yb=some (r1,r2,r3,r4)) :
  Calls Try.prog 36 #[.slice A0 l0.length c0,.agg #[.int .i64 ya,.int .i64 ye,.int .i64 yg,.int .i64 yh,.int .i64 yi,.int .i64 yj,.int .i64 yk,.int .i64 yl,.bool ym,.slice yu yb.length yq]] w fun e w'=>∃ v0_ v1_ v2_:Value,e=.returned (.tuple #[.agg #[v0_,v1_,v2_],.int .i64 r4])∧Kd.R (Kd.int .i64) 3 w' w.heap.size (fun k_=>some k_≠(v1_:Value).ownBlock∧some k_≠(v2_:Value).ownBlock) v0_ r1∧Kd.R (Kd.int .i64) 3 w' w.heap.size (fun k_=>some k_≠(v0_:Value).ownBlock∧some k_≠(v2_:Value).ownBlock) v1_ r2∧Kd.R (Kd.int .i64) 3 w' w.heap.size (fun k_=>some k_≠(v0_:Value).ownBlock∧some k_≠(v1_:Value).ownBlock) v2_ r3∧Below w.heap.size w w':=by
 have hu24:=Try.underlying24
 have hu32:=Try.underlying32
 have HR0:=aM hr0
 have HC0:=aM hc0
 clear hr0 hc0
 have zad:=aM y7
 have HC1_9:=aM y8
 clear y7 y8
 have HB:=aM (Below.refl w.heap.size w)
 have H:((fal.f k l0 ya ye).bind fun bt526=>(if bt526.2=0 then(if 0≤ya then(if ya < (l0.length:Int)then(if(yb.length:Int)=(rd l0 ya)then(fbd.l0 k l0 bt526.1 (yb.length:Int) 0 ya ye yg yh yi yj yk yl ym yb)else(some (([]:List Int),([]:List Int),([]:List Int),8)))else(none))else(none))else(some (([]:List Int),([]:List Int),([]:List Int),bt526.2))))=some (r1,r2,r3,r4):=h
 clear h
 replace H:=oB H
 obtain⟨⟨zk,zah⟩,A30,H⟩:=H
 try dsimp only at H
 have A3:=aM A30
 clear A30
 by_cases c4:zah=0
 rotate_left
 ·rw [iN c4] at H
  have za0:=bF c4
  have za1:=nT c4
  replace H:=oi4 H
  obtain⟨rfl,rfl,rfl,rfl⟩:=H
  go_enter Try.func36,Try.ntmps36
  go_wp2_with (first|((with_reducible refine gD 3 rfl ?_);refine bX 3 24 (aT ya ye yg yh yi yj yk yl ym yu yb.length yq) ?_;intro zb hg w72 hbox hb;have za:=aM (hbox);have zai:=gE (w:=w) hg (qB HB);have zh:=zai;replace HB:=bS (qB HB) hb;clear hb hbox hg)|((with_reducible refine gD 4 rfl ?_);refine bX 4 32 #[.slice none 0 0,.slice none 0 0,.slice none 0 0] ?_;intro zn hg w73 hbox hb;have zc:=aM (hbox);have zaj:=gE (w:=w) hg (qB1 HB zh);have zj:=zaj;replace HB:=bS (qB1 HB zh) hb;have zq:=nL hg za;have zr:=nG hg za;replace za:=bK za hb;clear hb hbox hg;have hnb74:=zq.out;have hnc74:=zr.out;have hcz75:=blk10 za.out)|((with_reducible refine gC 63 rfl ?_);refine gL 19 Try.func63 #[.slice A0 l0.length c0,.int .i64 ya,.int .i64 ye] ?_;(with_reducible refine(fal.calls k _ _ l0 ya ye zk zah _ ?s1 HC0.out A3.out).mono ?_);(case s1=>exact sC HR0 HB);rintro e w76 ⟨zaz,rfl,ho0,hb⟩;refine⟨_,rfl,?_⟩;have z1:=aM (Kd.R_lower ho0 (below_size (qB2 HB zh zj)));replace za:=bK za hb;replace zc:=bK zc hb;replace HB:=bS (qB2 HB zh zj) hb;(try clear hb);(try clear hk);(try clear hi);(try clear ho0);have hcz77:=blk3 zc.out))
  refine bodyPost_ret (results_ct rfl _ _ zn 32 #[.slice none 0 0,.slice none 0 0,.slice none 0 0] (0,0) _ rfl (by exact P3 zc) Try.underlying32 rfl (by kernel_rfl)) rfl ?_
  exact⟨_,_,_,pE,pN,pN,pN,qB2 HB zh zj⟩
 rw [ip c4] at H
 have za0:=bT c4
 have za1:=nF c4
 clear c4
 by_cases c5:0≤ya
 rotate_left
 ·rw [iN c5] at H
  cases H
 rw [ip c5] at H
 have yar:=dT c5
 clear c5
 by_cases c6:ya < (l0.length:Int)
 rotate_left
 ·rw [iN c6] at H
  cases H
 rw [ip c6] at H
 have yas:=dT c6
 clear c6
 by_cases c7:(yb.length:Int)=(rd l0 ya)
 rotate_left
 ·rw [iN c7] at H
  have za2:=bF c7
  have za3:=nT c7
  replace H:=oi4 H
  obtain⟨rfl,rfl,rfl,rfl⟩:=H
  go_enter Try.func36,Try.ntmps36
  try go_wp2_with (first|((with_reducible refine gD 3 rfl ?_);refine bX 3 24 (aT ya ye yg yh yi yj yk yl ym yu yb.length yq) ?_;intro zb hg w65 hbox hb;have za:=aM (hbox);have zai:=gE (w:=w) hg (qB HB);have zh:=zai;replace HB:=bS (qB HB) hb;clear hb hbox hg)|((with_reducible refine gD 4 rfl ?_);refine bX 4 32 #[.slice none 0 0,.slice none 0 0,.slice none 0 0] ?_;intro zn hg w66 hbox hb;have zc:=aM (hbox);have zaj:=gE (w:=w) hg (qB1 HB zh);have zj:=zaj;replace HB:=bS (qB1 HB zh) hb;have zq:=nL hg za;have zr:=nG hg za;replace za:=bK za hb;clear hb hbox hg;have hnb67:=zq.out;have hnc67:=zr.out;have hcz68:=blk10 za.out)|((with_reducible refine gC 63 rfl ?_);refine gL 19 Try.func63 #[.slice A0 l0.length c0,.int .i64 ya,.int .i64 ye] ?_;(with_reducible refine(fal.calls k _ _ l0 ya ye zk zah _ ?s1 HC0.out A3.out).mono ?_);(case s1=>exact sC HR0 HB);rintro e w69 ⟨zaz,rfl,ho0,hb⟩;refine⟨_,rfl,?_⟩;have z1:=aM (Kd.R_lower ho0 (below_size (qB2 HB zh zj)));replace za:=bK za hb;replace zc:=bK zc hb;replace HB:=bS (qB2 HB zh zj) hb;(try clear hb);(try clear hk);(try clear hi);(try clear ho0)))
  replace z1:=aM (Kd.R_drew z1.out)
  replace za:=aM (blk_drew za.out)
  replace zc:=aM (blk_drew zc.out)
  replace HB:=aM (below_drew1 HB.out)
  obtain⟨yx,⟨⟩,yr,yaf,yag⟩:=zI HR0.out ya
  have yt:=zW HB yr
  refine sT 9 [] (fun w'=>w'.cell? ⟨zb,0,none⟩=some (.int .i64 ya)∧w'.cell? ⟨zb,1,none⟩=some (.int .i64 ye)∧w'.cell? ⟨zb,2,none⟩=some (.int .i64 yg)∧w'.cell? ⟨zb,3,none⟩=some (.int .i64 yh)∧w'.cell? ⟨zb,4,none⟩=some (.int .i64 yi)∧w'.cell? ⟨zb,5,none⟩=some (.int .i64 yj)∧w'.cell? ⟨zb,6,none⟩=some (.int .i64 yk)∧w'.cell? ⟨zb,7,none⟩=some (.int .i64 yl)∧w'.cell? ⟨zb,8,none⟩=some (.bool ym)∧w'.cell? ⟨zb,9,none⟩=some (.slice yu yb.length yq)∧w'.cell? (yx.add (ya).toNat)=some (.int .i64 (rd l0 ya))) fbd.tab4 fbd.bits4 (c10 za (zW HB yr)) (fun hHeld HT_ HW_=>?_)
  generalize w69.drew=w70 at z1 za zc HB yt hHeld ⊢
  refine pQ 0 26 9 1 HT_ ?_
  refine pQ 3 29 9 9 HT_ ?_
  refine pQ 4 30 9 25 HT_ ?_
  refine pU11 1 27 9 27 HT_ HW_ hHeld ?_
  refine pQ 2 28 9 31 HT_ ?_
  refine pU11 5 31 9 63 HT_ HW_ hHeld ?_
  refine pQ 6 32 9 127 HT_ ?_
  refine pU11 7 33 9 255 HT_ HW_ hHeld ?_
  refine pQ 8 34 9 511 HT_ ?_
  refine dN HT_ ?_
  have hcz71:=blk3 zc.out
  try go_wp2
  refine bodyPost_ret (results_ct rfl _ _ zn 32 #[.slice none 0 0,.slice none 0 0,.slice none 0 0] (0,0) _ rfl (by exact P3 zc) Try.underlying32 rfl (by kernel_rfl)) rfl ?_
  exact⟨_,_,_,pE,pN,pN,pN,qB2 HB zh zj⟩
 rw [ip c7] at H
 have za2:=bT c7
 have za3:=nF c7
 clear c7
 have H':=aM H
 clear H
 go_enter Try.func36,Try.ntmps36
 try go_wp2_with (first|((with_reducible refine gD 3 rfl ?_);refine bX 3 24 (aT ya ye yg yh yi yj yk yl ym yu yb.length yq) ?_;intro zb hg w8 hbox hb;have za:=aM (hbox);have zai:=gE (w:=w) hg (qB HB);have zh:=zai;replace HB:=bS (qB HB) hb;clear hb hbox hg)|((with_reducible refine gD 4 rfl ?_);refine bX 4 32 #[.slice none 0 0,.slice none 0 0,.slice none 0 0] ?_;intro zn hg w9 hbox hb;have zc:=aM (hbox);have zaj:=gE (w:=w) hg (qB1 HB zh);have zj:=zaj;replace HB:=bS (qB1 HB zh) hb;have zq:=nL hg za;have zr:=nG hg za;replace za:=bK za hb;clear hb hbox hg;have hnb10:=zq.out;have hnc10:=zr.out;have yah:=blk10 za.out)|((with_reducible refine gC 63 rfl ?_);refine gL 19 Try.func63 #[.slice A0 l0.length c0,.int .i64 ya,.int .i64 ye] ?_;(with_reducible refine(fal.calls k _ _ l0 ya ye zk zah _ ?s1 HC0.out A3.out).mono ?_);(case s1=>exact sC HR0 HB);rintro e w12 ⟨zaz,rfl,ho0,hb⟩;refine⟨_,rfl,?_⟩;have z1:=aM (Kd.R_lower ho0 (below_size (qB2 HB zh zj)));replace za:=bK za hb;replace zc:=bK zc hb;replace HB:=bS (qB2 HB zh zj) hb;(try clear hb);(try clear hk);(try clear hi);(try clear ho0)))
 replace z1:=aM (Kd.R_drew z1.out)
 replace za:=aM (blk_drew za.out)
 replace zc:=aM (blk_drew zc.out)
 replace HB:=aM (below_drew1 HB.out)
 obtain⟨yx,⟨⟩,yr,yaf,yag⟩:=zI HR0.out ya
 have yt:=zW HB yr
 refine sT 9 [] (fun w'=>w'.cell? ⟨zb,0,none⟩=some (.int .i64 ya)∧w'.cell? ⟨zb,1,none⟩=some (.int .i64 ye)∧w'.cell? ⟨zb,2,none⟩=some (.int .i64 yg)∧w'.cell? ⟨zb,3,none⟩=some (.int .i64 yh)∧w'.cell? ⟨zb,4,none⟩=some (.int .i64 yi)∧w'.cell? ⟨zb,5,none⟩=some (.int .i64 yj)∧w'.cell? ⟨zb,6,none⟩=some (.int .i64 yk)∧w'.cell? ⟨zb,7,none⟩=some (.int .i64 yl)∧w'.cell? ⟨zb,8,none⟩=some (.bool ym)∧w'.cell? ⟨zb,9,none⟩=some (.slice yu yb.length yq)∧w'.cell? (yx.add (ya).toNat)=some (.int .i64 (rd l0 ya))) fbd.tab4 fbd.bits4 (c10 za (zW HB yr)) (fun hHeld HT_ HW_=>?_)
 generalize w12.drew=w13 at z1 za zc HB yt hHeld ⊢
 refine pQ 0 26 9 1 HT_ ?_
 refine pQ 3 29 9 9 HT_ ?_
 refine pQ 4 30 9 25 HT_ ?_
 refine pU11 1 27 9 27 HT_ HW_ hHeld ?_
 refine pQ 2 28 9 31 HT_ ?_
 refine pU11 5 31 9 63 HT_ HW_ hHeld ?_
 refine pQ 6 32 9 127 HT_ ?_
 refine pU11 7 33 9 255 HT_ HW_ hHeld ?_
 refine pQ 8 34 9 511 HT_ ?_
 refine dN HT_ ?_
 have yai:=blk10 za.out
 try go_wp2
 go_loopg [39] k (fun kq v39 w'=>∃ (yc:Int),v39=.int .i64 yc∧Aside0 (fbd.l0 kq l0 zk (yb.length:Int) yc ya ye yg yh yi yj yk yl ym yb=some (r1,r2,r3,r4))∧Aside0 (kq≤k)∧Aside0 (Kd.R (Kd.int .i64) 3 w' w.heap.size (fun _=>True) zaz zk)∧Aside0 (w'.heap[zb]?=some (.cells (aT ya ye yg yh yi yj yk yl ym yu yb.length yq) 24 (0,0)))∧Aside0 (w'.heap[zn]?=some (.cells #[(.slice none 0 0),(.slice none 0 0),(.slice none 0 0)] 32 (0,0)))∧Aside0 (Below w.heap.size w w'))
 case atStart=>exact⟨(0),(pF),H',⟨Nat.le_refl _⟩,⟨pR z1.out⟩,⟨pK za.out⟩,⟨pK zc.out⟩,⟨qB2 HB zh zj⟩⟩
 clear H'
 try clear za0
 try clear za1
 try clear yar
 try clear yas
 try clear za2
 try clear za3
 try clear yah yai
 try clear yt
 try clear yaf
 try clear yag
 obtain⟨yc,rfl,HA,HK1,zz,za,zc,HB⟩:=hrel
 cases gk with
 | zero=>exact absurd HA.out (by simp [fbd.l0])
 | succ k1=>?_
 have H:=HA.out
 clear HA
 simp only [fbd.l0] at H
 by_cases c15:yc < (yb.length:Int)
 ·rw [ip c15] at H
  have zav:=dT c15
  clear c15
  by_cases c16:0≤yc
  rotate_left
  ·rw [iN c16] at H
   cases H
  rw [ip c16] at H
  have c16b0:=dT c16
  clear c16
  by_cases c17:yc < (yb.length:Int)
  rotate_left
  ·rw [iN c17] at H
   cases H
  rw [ip c17] at H
  have c17b0:=dT c17
  clear c17
  by_cases c18:(rd yb yc) < 0
  ·rw [ip c18] at H
   have yaj:=dT c18
   clear c18
   replace H:=oi4 H
   obtain⟨rfl,rfl,rfl,rfl⟩:=H
   try go_wp2
   replace zz:=aM (Kd.R_drew zz.out)
   replace za:=aM (blk_drew za.out)
   replace zc:=aM (blk_drew zc.out)
   replace HB:=aM (below_drew1 HB.out)
   obtain⟨yp,⟨⟩,yo,yak,yal⟩:=zI zad.out yc
   have ys:=zW HB yo
   refine sT 16 [] (fun w'=>w'.cell? ⟨zb,0,none⟩=some (.int .i64 ya)∧w'.cell? ⟨zb,1,none⟩=some (.int .i64 ye)∧w'.cell? ⟨zb,2,none⟩=some (.int .i64 yg)∧w'.cell? ⟨zb,3,none⟩=some (.int .i64 yh)∧w'.cell? ⟨zb,4,none⟩=some (.int .i64 yi)∧w'.cell? ⟨zb,5,none⟩=some (.int .i64 yj)∧w'.cell? ⟨zb,6,none⟩=some (.int .i64 yk)∧w'.cell? ⟨zb,7,none⟩=some (.int .i64 yl)∧w'.cell? ⟨zb,8,none⟩=some (.bool ym)∧w'.cell? ⟨zb,9,none⟩=some (.slice (some yp) yb.length yq)∧w'.cell? (yp.add (yc).toNat)=some (.int .i64 (rd yb yc))) fbd.tab9 fbd.bits9 (c10 za (zW HB yo)) (fun hHeld HT_ HW_=>?_)
   generalize wr.drew=w19 at zz za zc HB ys hHeld ⊢
   refine pQ 0 42 16 1 HT_ ?_
   refine pQ 2 44 16 5 HT_ ?_
   refine pU11 1 43 16 7 HT_ HW_ hHeld ?_
   refine pQ 3 45 16 15 HT_ ?_
   refine pU11 4 46 16 31 HT_ HW_ hHeld ?_
   refine pQ 5 47 16 63 HT_ ?_
   refine pQ 6 48 16 127 HT_ ?_
   refine pX 7 49 16 255 HT_ ?_
   refine pX 8 50 16 511 HT_ ?_
   refine pX 9 51 16 1023 HT_ ?_
   refine pX 10 52 16 2047 HT_ ?_
   refine pX 11 53 16 4095 HT_ ?_
   refine pX 12 54 16 8191 HT_ ?_
   refine pX 13 55 16 16383 HT_ ?_
   refine pX 14 56 16 32767 HT_ ?_
   refine pQ 15 57 16 65535 HT_ ?_
   refine dN HT_ ?_
   have hnb20:=zr.out
   have hnc20:=zq.out
   have hcz21:=blk3 zc.out
   try go_wp2
   refine bodyPost_ret (results_ct rfl _ _ zn 32 #[.slice none 0 0,.slice none 0 0,.slice none 0 0] (0,0) _ rfl (by exact P3 zc) Try.underlying32 rfl (by kernel_rfl)) rfl ?_
   exact⟨_,_,_,pE,pN,pN,pN,qB2 HB zh zj⟩
  rw [iN c18] at H
  have yaj:=dF c18
  clear c18
  by_cases c22:(rd yb yc) ≥ ye
  rotate_left
  ·rw [iN c22] at H
   have yam:decide (ye≤(rd yb yc))=false:=decide_eq_false c22
   clear c22
   have H':=aM H
   clear H
   try go_wp2
   replace zz:=aM (Kd.R_drew zz.out)
   replace za:=aM (blk_drew za.out)
   replace zc:=aM (blk_drew zc.out)
   replace HB:=aM (below_drew1 HB.out)
   obtain⟨yp,⟨⟩,yo,yak,yal⟩:=zI zad.out yc
   have ys:=zW HB yo
   obtain⟨y2,y9,yn,yat,yau⟩:=zI zad.out yc
   have yv:=yn
   obtain rfl:yp=y2:=(by injection y9)
   replace yn:=zW HB yn
   refine sT 16 [] (fun w'=>w'.cell? ⟨zb,0,none⟩=some (.int .i64 ya)∧w'.cell? ⟨zb,1,none⟩=some (.int .i64 ye)∧w'.cell? ⟨zb,2,none⟩=some (.int .i64 yg)∧w'.cell? ⟨zb,3,none⟩=some (.int .i64 yh)∧w'.cell? ⟨zb,4,none⟩=some (.int .i64 yi)∧w'.cell? ⟨zb,5,none⟩=some (.int .i64 yj)∧w'.cell? ⟨zb,6,none⟩=some (.int .i64 yk)∧w'.cell? ⟨zb,7,none⟩=some (.int .i64 yl)∧w'.cell? ⟨zb,8,none⟩=some (.bool ym)∧w'.cell? ⟨zb,9,none⟩=some (.slice (some yp) yb.length yq)∧w'.cell? (yp.add (yc).toNat)=some (.int .i64 (rd yb yc))∧w'.cell? (yp.add (yc).toNat)=some (.int .i64 (rd yb yc))) fbd.tab9 fbd.bits9 (c10 za ⟨(zW HB yo),(zW HB yv)⟩) (fun hHeld HT_ HW_=>?_)
   generalize wr.drew=w26 at zz za zc HB ys yn hHeld ⊢
   refine pQ 0 42 16 1 HT_ ?_
   refine pQ 2 44 16 5 HT_ ?_
   refine pU12 1 43 16 7 HT_ HW_ hHeld ?_
   refine pQ 3 45 16 15 HT_ ?_
   refine pU12 4 46 16 31 HT_ HW_ hHeld ?_
   refine pQ 5 47 16 63 HT_ ?_
   refine pQ 6 48 16 127 HT_ ?_
   refine pQ 7 49 16 255 HT_ ?_
   refine pQ 9 51 16 767 HT_ ?_
   refine pQ 12 54 16 4863 HT_ ?_
   refine pU12 8 50 16 5119 HT_ HW_ hHeld ?_
   refine pQ 10 52 16 6143 HT_ ?_
   refine pU12 11 53 16 8191 HT_ HW_ hHeld ?_
   refine pU12 13 55 16 16383 HT_ HW_ hHeld ?_
   refine pQ 14 56 16 32767 HT_ ?_
   refine pQ 15 57 16 65535 HT_ ?_
   refine dN HT_ ?_
   try go_wp2
   go_roundg k1
   case measure=>have:=HK1.out;omega
   case rel=>exact⟨(wrap64 (yc + 1)),(pF),H',⟨pO1 HK1⟩,⟨pR zz.out⟩,⟨pK za.out⟩,⟨pK zc.out⟩,⟨qB2 HB zh zj⟩⟩
  rw [ip c22] at H
  have yam:decide (ye≤(rd yb yc))=true:=decide_eq_true c22
  clear c22
  replace H:=oi4 H
  obtain⟨rfl,rfl,rfl,rfl⟩:=H
  try go_wp2
  replace zz:=aM (Kd.R_drew zz.out)
  replace za:=aM (blk_drew za.out)
  replace zc:=aM (blk_drew zc.out)
  replace HB:=aM (below_drew1 HB.out)
  obtain⟨yp,⟨⟩,yo,yak,yal⟩:=zI zad.out yc
  have ys:=zW HB yo
  obtain⟨y2,y9,yn,yat,yau⟩:=zI zad.out yc
  have yv:=yn
  obtain rfl:yp=y2:=(by injection y9)
  replace yn:=zW HB yn
  refine sT 16 [] (fun w'=>w'.cell? ⟨zb,0,none⟩=some (.int .i64 ya)∧w'.cell? ⟨zb,1,none⟩=some (.int .i64 ye)∧w'.cell? ⟨zb,2,none⟩=some (.int .i64 yg)∧w'.cell? ⟨zb,3,none⟩=some (.int .i64 yh)∧w'.cell? ⟨zb,4,none⟩=some (.int .i64 yi)∧w'.cell? ⟨zb,5,none⟩=some (.int .i64 yj)∧w'.cell? ⟨zb,6,none⟩=some (.int .i64 yk)∧w'.cell? ⟨zb,7,none⟩=some (.int .i64 yl)∧w'.cell? ⟨zb,8,none⟩=some (.bool ym)∧w'.cell? ⟨zb,9,none⟩=some (.slice (some yp) yb.length yq)∧w'.cell? (yp.add (yc).toNat)=some (.int .i64 (rd yb yc))∧w'.cell? (yp.add (yc).toNat)=some (.int .i64 (rd yb yc))) fbd.tab9 fbd.bits9 (c10 za ⟨(zW HB yo),(zW HB yv)⟩) (fun hHeld HT_ HW_=>?_)
  generalize wr.drew=w23 at zz za zc HB ys yn hHeld ⊢
  refine pQ 0 42 16 1 HT_ ?_
  refine pQ 2 44 16 5 HT_ ?_
  refine pU12 1 43 16 7 HT_ HW_ hHeld ?_
  refine pQ 3 45 16 15 HT_ ?_
  refine pU12 4 46 16 31 HT_ HW_ hHeld ?_
  refine pQ 5 47 16 63 HT_ ?_
  refine pQ 6 48 16 127 HT_ ?_
  refine pQ 7 49 16 255 HT_ ?_
  refine pQ 9 51 16 767 HT_ ?_
  refine pQ 12 54 16 4863 HT_ ?_
  refine pU12 8 50 16 5119 HT_ HW_ hHeld ?_
  refine pQ 10 52 16 6143 HT_ ?_
  refine pU12 11 53 16 8191 HT_ HW_ hHeld ?_
  refine pU12 13 55 16 16383 HT_ HW_ hHeld ?_
  refine pQ 14 56 16 32767 HT_ ?_
  refine pQ 15 57 16 65535 HT_ ?_
  refine dN HT_ ?_
  have hnb24:=zr.out
  have hnc24:=zq.out
  have hcz25:=blk3 zc.out
  try go_wp2
  refine bodyPost_ret (results_ct rfl _ _ zn 32 #[.slice none 0 0,.slice none 0 0,.slice none 0 0] (0,0) _ rfl (by exact P3 zc) Try.underlying32 rfl (by kernel_rfl)) rfl ?_
  exact⟨_,_,_,pE,pN,pN,pN,qB2 HB zh zj⟩
 rw [iN c15] at H
 have zav:=dF c15
 clear c15
 replace H:=oB H
 obtain⟨zm,za4,H⟩:=H
 try dsimp only at H
 have A27:=aM za4
 clear za4
 have H':=aM H
 clear H
 obtain⟨zt,zu,yav⟩:=Kd.R_slice zz.out
 subst yav
 go_wp2_with (first|((with_reducible refine gD 9 rfl ?_);refine bX 9 32 #[.slice none 0 0,.slice none 0 0,.slice none 0 0] ?_;intro zo hg w29 hbox hb;replace zz:=bR zz hb;have zf:=aM (hbox);have GW533:=gE (w:=w) hg (qB2 HB zh zj);have zy:=GW533;replace HB:=bS (qB2 HB zh zj) hb;have zw:=nL hg za;have z2:=nG hg za;replace za:=bK za hb;have zx:=nL hg zc;have z3:=nG hg zc;replace zc:=bK zc hb;clear hb hbox hg;have hnb30:=z2.out;have hnc30:=zw.out;have hnb31:=z3.out;have hnc31:=zx.out;have yan:=blk3 zf.out)|((with_reducible refine gC 48 rfl ?_);refine gL 63 Try.func48 #[.slice (some yx) l0.length c0] ?_;(with_reducible refine(fam.calls k1 _ _ l0 zm _ ?s1 HC0.out A27.out).mono ?_);(case s1=>exact Kd.C_below HR0.out (qB3 HB zh zj zy));rintro e w33 ⟨v535,rfl,ho0,hb⟩;refine⟨_,rfl,?_⟩;have zaw:=aM (Kd.N_lower (Kd.N_mono (ok':=fun k_=>some k_≠(.slice zt zk.length zu:Value).ownBlock∧k_≠zb∧k_≠zn∧k_≠zo) ho0 (fun k_ hk_=>⟨(Kd.fresh' (Kd.R_lt (by(with_reducible repeat(first|apply rA|apply rN|apply rD));exact(F3 zz zf (fun _ h_=>h_.1)))) k_ hk_),(Kd.freshB (g:=zb) (o:=.cells (aT ya ye yg yh yi yj yk yl ym yu yb.length yq) 24 (0,0)) (by refine B3 zw ?_;exact za.out) k_ hk_),(Kd.freshB (g:=zn) (o:=.cells #[.slice none 0 0,.slice none 0 0,.slice none 0 0] 32 (0,0)) (by refine B3 zx ?_;exact zc.out) k_ hk_),(Kd.freshB (g:=zo) (o:=.cells #[.slice zt zk.length zu,.slice none 0 0,.slice none 0 0] 32 (0,0)) (by exact P3 zf) k_ hk_)⟩)) (below_size (qB3 HB zh zj zy)));replace zz:=aM (Kd.R_below (by(with_reducible repeat(first|apply rA|apply rN|apply rD));exact(F3 zz zf (fun _ h_=>h_.1))) hb);replace za:=aM (blk_below (g:=zb) (o:=.cells (aT ya ye yg yh yi yj yk yl ym yu yb.length yq) 24 (0,0)) (by refine B3 zw ?_;exact za.out) hb);replace zc:=aM (blk_below (g:=zn) (o:=.cells #[.slice none 0 0,.slice none 0 0,.slice none 0 0] 32 (0,0)) (by refine B3 zx ?_;exact zc.out) hb);replace zf:=aM (blk_below (g:=zo) (o:=.cells #[.slice zt zk.length zu,.slice none 0 0,.slice none 0 0] 32 (0,0)) (by exact P3 zf) hb);replace HB:=bS (qB3 HB zh zj zy) hb;(try clear hb);(try clear hk);(try clear hi);(try clear ho0);obtain⟨yaw,zao,yax⟩:=Kd.N_slice zaw.out;subst yax))
 go_loopg [66] k1 (fun kq v66 w'=>∃ (yd:Int) (zi:List Int) (u534002:Value),v66=.int .i64 yd∧Aside0 (fbd.l1 kq l0 zm (zm.length:Int) yd ya ye yg yh yi yj yk yl ym yb zk zi=some (r1,r2,r3,r4))∧Aside0 (kq≤k1)∧Aside0 (Kd.N (Kd.slice 3 (Kd.int .i64)) 22 w' w.heap.size (fun k_=>some k_≠((.slice zt zk.length zu):Value).ownBlock∧some k_≠(u534002:Value).ownBlock∧k_≠zb∧k_≠zn∧k_≠zo) (.slice yaw zm.length zao) zm)∧Aside0 (Kd.R (Kd.int .i64) 3 w' w.heap.size (fun k_=>some k_≠(u534002:Value).ownBlock) (.slice zt zk.length zu) zk)∧Aside0 (Kd.R (Kd.int .i64) 3 w' w.heap.size (fun k_=>some k_≠((.slice zt zk.length zu):Value).ownBlock) u534002 zi)∧Aside0 (w'.heap[zb]?=some (.cells (aT ya ye yg yh yi yj yk yl ym yu yb.length yq) 24 (0,0)))∧Aside0 (w'.heap[zn]?=some (.cells #[(.slice none 0 0),(.slice none 0 0),(.slice none 0 0)] 32 (0,0)))∧Aside0 (w'.heap[zo]?=some (.cells #[(.slice zt zk.length zu),(.slice none 0 0),u534002] 32 (0,0)))∧Aside0 (Below w.heap.size w w'))
 case atStart=>exact⟨(0),(([]:List Int)),(.slice none 0 0),(pF),H',⟨Nat.le_refl _⟩,⟨by(with_reducible repeat(first|apply Kd.N_alloc|apply Kd.N_drewN|apply Kd.N_drew));exact Kd.N_mono zaw.out (fun _ hk=>⟨hk.1,⟨(by simp [Value.ownBlock]),⟨hk.2.1,⟨hk.2.2.1,hk.2.2.2⟩⟩⟩⟩)⟩,⟨by(with_reducible repeat(first|apply rA|apply rN|apply rD));exact Kd.R_mono zz.out (fun _ hk=>(by simp [Value.ownBlock]))⟩,⟨pN⟩,⟨pK za.out⟩,⟨pK zc.out⟩,⟨pK zf.out⟩,⟨qB3 HB zh zj zy⟩⟩
 clear H'
 try clear zav
 try clear yan
 obtain⟨yd,zi,u534002,rfl,HA,HK2,zp,zd,ze,za,zc,zf,HB⟩:=hrel
 cases gk with
 | zero=>exact absurd HA.out (by simp [fbd.l1])
 | succ k2=>?_
 have H:=HA.out
 clear HA
 simp only [fbd.l1] at H
 by_cases c35:yd < (zm.length:Int)
 rotate_left
 ·rw [iN c35] at H
  have yao:=dF c35
  clear c35
  replace H:=oi4 H
  obtain⟨rfl,rfl,rfl,rfl⟩:=H
  have hnb58:=z2.out
  have hnc58:=zw.out
  have hnb59:=z3.out
  have hnc59:=zx.out
  have hcz60:=blk3 zf.out
  have hnb62:=zr.out
  have hnc62:=zq.out
  have hcz63:=blk3 zc.out
  obtain⟨yay,yaz,ya0⟩:=Kd.R_slice ze.out
  subst ya0
  go_wp2
  refine bodyPost_ret (results_ct rfl _ _ zn 32 #[.slice zt zk.length zu,.slice none 0 0,.slice yay zi.length yaz] (0,0) _ rfl (by exact P3 zc) Try.underlying32 rfl (by kernel_rfl)) rfl ?_
  exact⟨_,_,_,pE,by(with_reducible repeat(first|apply rA|apply rN|apply rD));exact F3 zd zc (fun _ hk=>⟨(by simp [Value.ownBlock]),hk.1⟩),pN,by(with_reducible repeat(first|apply rA|apply rN|apply rD));exact F3 ze zc (fun _ hk=>⟨hk.1,(by simp [Value.ownBlock])⟩),qB3 HB zh zj zy⟩
 rw [ip c35] at H
 have yao:=dT c35
 clear c35
 obtain⟨zag,zap⟩:∃ y_:List Int,y_=(([]:List Int)):=⟨_,rfl⟩
 replace H:(if 0≤yd then(if yd < (zm.length:Int)then(if zag.length + (rd_L1 zm yd).length < 17592186044416 then((some (zag ++ (rd_L1 zm yd):List Int)).bind fun zg=>(if 0≤ya then(if ya < (zg.length:Int)then(if 0≤(rd zg ya)then(if(rd zg ya) < (yb.length:Int)then((fan.f k2 zk (zg.set (ya:Int).toNat (rd yb (rd zg ya)))).bind fun z4=>(if zi.length < 17592186044416 then(fbd.l1 k2 l0 zm (zm.length:Int) (wrap64 (yd + 1)) ya ye yg yh yi yj yk yl ym yb zk (zi ++ [z4]))else(none)))else(none))else(none))else(none))else(none)))else(none))else(none))else(none))=some (r1,r2,r3,r4):=pH zap H
 have zax:=aM zap
 clear zap
 by_cases c36:0≤yd
 rotate_left
 ·rw [iN c36] at H
  cases H
 rw [ip c36] at H
 have c36b0:=dT c36
 clear c36
 by_cases c37:yd < (zm.length:Int)
 rotate_left
 ·rw [iN c37] at H
  cases H
 rw [ip c37] at H
 have c37b0:=dT c37
 clear c37
 by_cases c38:zag.length + (rd_L1 zm yd).length < 17592186044416
 rotate_left
 ·rw [iN c38] at H
  cases H
 rw [ip c38] at H
 have LMc38:=aM c38
 clear c38
 obtain⟨zg,zaq⟩:∃ y_:List Int,y_=(zag ++ (rd_L1 zm yd)):=⟨_,rfl⟩
 replace H:(if 0≤ya then(if ya < (zg.length:Int)then(if 0≤(rd zg ya)then(if(rd zg ya) < (yb.length:Int)then((fan.f k2 zk (zg.set (ya:Int).toNat (rd yb (rd zg ya)))).bind fun z4=>(if zi.length < 17592186044416 then(fbd.l1 k2 l0 zm (zm.length:Int) (wrap64 (yd + 1)) ya ye yg yh yi yj yk yl ym yb zk (zi ++ [z4]))else(none)))else(none))else(none))else(none))else(none))=some (r1,r2,r3,r4):=pH zaq H
 have Ny541:=aM zaq
 clear zaq
 by_cases c39:0≤ya
 rotate_left
 ·rw [iN c39] at H
  cases H
 rw [ip c39] at H
 have c39b0:=dT c39
 clear c39
 by_cases c40:ya < (zg.length:Int)
 rotate_left
 ·rw [iN c40] at H
  cases H
 rw [ip c40] at H
 have c40b0:=dT c40
 clear c40
 by_cases c41:0≤(rd zg ya)
 rotate_left
 ·rw [iN c41] at H
  cases H
 rw [ip c41] at H
 have c41b0:=dT c41
 clear c41
 by_cases c42:(rd zg ya) < (yb.length:Int)
 rotate_left
 ·rw [iN c42] at H
  cases H
 rw [ip c42] at H
 have c42b0:=dT c42
 clear c42
 obtain⟨zam,zar⟩:∃ y_:List Int,y_=(zg.set (ya:Int).toNat (rd yb (rd zg ya))):=⟨_,rfl⟩
 replace H:((fan.f k2 zk zam).bind fun z4=>(if zi.length < 17592186044416 then(fbd.l1 k2 l0 zm (zm.length:Int) (wrap64 (yd + 1)) ya ye yg yh yi yj yk yl ym yb zk (zi ++ [z4]))else(none)))=some (r1,r2,r3,r4):=pH zar H
 have Ny546:=aM zar
 clear zar
 replace H:=oB H
 obtain⟨z4,za5,H⟩:=H
 try dsimp only at H
 have A44:=aM za5
 clear za5
 by_cases c45:zi.length < 17592186044416
 rotate_left
 ·rw [iN c45] at H
  cases H
 rw [ip c45] at H
 have LMc45:=aM c45
 clear c45
 obtain⟨zan,zas⟩:∃ y_:List Int,y_=(zi ++ [z4]):=⟨_,rfl⟩
 replace H:(fbd.l1 k2 l0 zm (zm.length:Int) (wrap64 (yd + 1)) ya ye yg yh yi yj yk yl ym yb zk zan)=some (r1,r2,r3,r4):=pH zas H
 have Ny548:=aM zas
 clear zas
 have H':=aM H
 clear H
 try go_wp2_with (first|((with_reducible refine gD 69 rfl ?_);refine Kd.R_lit (Kd.int .i64) _ 3 ?hg (N:=69) ?hd (xs:=([]:List Int)) (inner:=[]) (ok:=fun _=>True) (okp:=fun _=>True) ?hr ?hp (fun _ hk=>hk) trivial (Below.refl _ _) (Nat.le_refl _) (by simp) ?_;(case hd=>rfl);(case hg=>rfl);(case hr=>first|(go_simp;done)|(go_simp;rfl));(case hp=>exact(Reps.none _ _));intro v538 w46 ho47 hb hg_ hnew_;clear hg_ hnew_;(first|rw [← zax.out] at ho47|(simp only [Int.reduceToNat] at ho47;rw [← zax.out] at ho47));replace zp:=aM (Kd.N_elder' (by(with_reducible repeat(first|apply Kd.N_alloc|apply Kd.N_drewN|apply Kd.N_drew));exact zp.out) (Kd.R_base ho47) hb);have zak:=aM (Kd.R_lower (Kd.R_new' (Kd.R_new' ho47 (Kd.R_lt (pR zd.out))) (Kd.R_lt (pR ze.out))) (below_size (qB3 HB zh zj zy)));replace zd:=eR zd ho47 hb;replace ze:=eR ze ho47 hb;replace za:=bK za hb;replace zc:=bK zc hb;replace zf:=bK zf hb;replace HB:=bS (qB3 HB zh zj zy) hb;clear hb ho47;have yap:0≤(yd:Int):=oD;have yaq:yd < (zm.length:Int):=oD;obtain⟨yy,yaa,yab,ya1,y5,yz,y0⟩:=at_L1 (Kd.N_reads' zp.out).2.2 yd yap yaq;cases ya1;obtain⟨ce540,yac,yad,y3⟩:=Kd.N_get zp.out [] yd yap (by first|exact yaq|exact of_decide_eq_true pD|(have e_:=(Kd.N_reads' zp.out).1;omega));obtain⟨ua540_0,uc540_0,rfl,ul540_0,ge540_0⟩:=Kd.FK_slice_open yad;have hv540_0:=y3 0 _ rfl;rw [Nat.add_zero,show ((Kd.slice 3 (Kd.int .i64))).sz=1 from rfl,Nat.mul_one] at hv540_0;replace hv540_0:=Option.some.inj (hv540_0.symm.trans y5);injection hv540_0 with hva_ hvn_ hvc_;rw [hva_] at ge540_0;rw [hvc_] at ul540_0;have HL540_0:=aM (show Kd.V (Kd.int .i64) 3 _ w.heap.size _ _ (rd_L1 zm yd) from Kd.V_mk ul540_0 ge540_0);clear hva_ hvn_ hvc_ ge540_0 ul540_0;clear y3 yac;have zal:=aM y0;have HC540_0:=aM yz;clear y0 yz)|((with_reducible refine gate_builtin (b:=.append) (xs:=#[.tmp 69,.tmp 73]) rfl ?_);at_builtin;refine Kd.R_append_rows (Kd.int .i64) (w0:=w) w.heap.size rfl (.tmp 69) (.tmp 73) 22 3 (.int .i64 0) 8 rfl Try.underlying22 info3 rfl (by decide) (by omega) v538 zag (rd_L1 zm yd) _ _ _ (fun k_=>some k_≠((.slice zt zk.length zu):Value).ownBlock∧some k_≠(u534002:Value).ownBlock) (fun _=>False) rfl rfl ?aO ?aR (fun _ _ h=>h) (fun _ h=>h.elim) ?aF ?aB ?aS ?aL ?_;(case aR=>repeat(first|exact(by repeat(first|(with_reducible exact zal.out)|(with_reducible refine Kd.C_alloc ?_ _)|(with_reducible refine Kd.C_drewN ?_ _)|(with_reducible refine Kd.C_drew ?_)|exact zal.out))|(with_reducible refine Kd.C_alloc ?_ _)|(with_reducible refine Kd.C_drewN ?_ _)|(with_reducible refine Kd.C_drew ?_)));(case aB=>exact(qB3 HB zh zj zy));(case aF=>exact(fun k_ hk=>⟨Kd.fresh' (Kd.R_lt (pR zd.out)) k_ hk,Kd.fresh' (Kd.R_lt (pR ze.out)) k_ hk⟩));(case aO=>exact(by(with_reducible repeat(first|apply rA|apply rN|apply rD));exact Kd.R_mono zak.out (fun _ hk=>⟨hk.1.2,hk.2⟩)));(case aS=>exact(below_size (qB3 HB zh zj zy)));(case aL=>have:=LMc38.out;omega);intro v542 w48 ho hb hg hat;rw [← Ny541.out] at ho;replace zp:=aM (Kd.N_afterv (ok:=(fun k_=>some k_≠((.slice zt zk.length zu):Value).ownBlock∧some k_≠(u534002:Value).ownBlock∧k_≠zb∧k_≠zn∧k_≠zo)) (by(with_reducible repeat(first|apply Kd.N_alloc|apply Kd.N_drewN|apply Kd.N_drew));exact zp.out) hg hat);replace zd:=aM (Kd.R_after (ok:=(fun k_=>some k_≠(u534002:Value).ownBlock)) (pR zd.out) hg hat);replace ze:=aM (Kd.R_after (ok:=(fun k_=>some k_≠((.slice zt zk.length zu):Value).ownBlock)) (pR ze.out) hg hat);replace za:=aM (blk_grown (g:=zb) (pK za.out) hg (Kd.R_ne zak.out za.out (by decide)));replace zc:=aM (blk_grown (g:=zn) (pK zc.out) hg (Kd.R_ne zak.out zc.out (by decide)));replace zf:=aM (blk_grown (g:=zo) (pK zf.out) hg (Kd.R_ne zak.out zf.out (by decide)));replace HL540_0:=aM (Kd.V_afterv (ok:=(fun k_=>some k_≠(.slice (some yy) zm.length zao:Value).ownBlock∧some k_≠((.slice zt zk.length zu):Value).ownBlock∧some k_≠(u534002:Value).ownBlock∧k_≠zb∧k_≠zn∧k_≠zo)) (by(with_reducible repeat(first|apply Kd.V_alloc|apply Kd.V_drewN|apply Kd.V_drew));exact Kd.V_mono HL540_0.out (fun _ hk=>⟨⟨hk.2,⟨hk.1.1.1,⟨hk.1.1.2.1,⟨hk.1.1.2.2.1,⟨hk.1.1.2.2.2.1,hk.1.1.2.2.2.2⟩⟩⟩⟩⟩,hk.1.2⟩)) hg hat);replace HB:=aM (hb);have zl:=aM (ho);clear zak;clear ho hb hg hat))
 replace zp:=aM (Kd.N_drew zp.out)
 replace zd:=aM (Kd.R_drew zd.out)
 replace ze:=aM (Kd.R_drew ze.out)
 replace HL540_0:=aM (Kd.V_drew HL540_0.out)
 replace zl:=aM (Kd.R_drew zl.out)
 replace za:=aM (blk_drew za.out)
 replace zc:=aM (blk_drew zc.out)
 replace zf:=aM (blk_drew zf.out)
 replace HB:=aM (below_drew1 HB.out)
 obtain⟨Ao50,zac,za6⟩:=Kd.R_slice zl.out
 (first|subst za6|(injection za6 with f1_ f2_ f3_;have f4_:=f1_.symm;have f5_:=f3_.symm;clear f1_ f2_ f3_;subst f4_;subst f5_))
 obtain⟨ad544,⟨⟩,yw,p544,q544⟩:=zI (Kd.R_reads' zl.out).2.2 ya
 obtain⟨y4,⟨⟩,y1,p545,q545⟩:=zI zad.out (rd zg ya)
 have y6:=zW HB y1
 have p43:0≤(ya:Int):=oD
 have q43:(ya:Int) < ((zg.length:Int):Int):=oD
 obtain⟨yf,co43,za7,za8,gl43,cl43,HG43⟩:=Kd.R_form zl.out (by omega)
 (first|cases za7|(injection za7 with ea_ en_ ec_;(first|subst ea_|(injection ea_ with ea_;subst ea_));subst ec_;clear en_))
 have GB43:=aM za8
 have GG43:=aM HG43
 clear za8 gl43 HG43
 (first|simp only [add_plain] at yw|skip)
 obtain⟨yae,hf43_0⟩:=Kd.R_celln 0 zl.out (ya:Int) p43 q43
 have HP51:=Kd.R_putn zl.out (ya:Int) (rd yb (rd zg ya))
 rw [← Ny546.out] at HP51
 have HQ51:=aM HP51
 clear HP51
 refine sT 14 [13] (fun w'=>w'.cell? ⟨zb,0,none⟩=some (.int .i64 ya)∧w'.cell? ⟨zb,1,none⟩=some (.int .i64 ye)∧w'.cell? ⟨zb,2,none⟩=some (.int .i64 yg)∧w'.cell? ⟨zb,3,none⟩=some (.int .i64 yh)∧w'.cell? ⟨zb,4,none⟩=some (.int .i64 yi)∧w'.cell? ⟨zb,5,none⟩=some (.int .i64 yj)∧w'.cell? ⟨zb,6,none⟩=some (.int .i64 yk)∧w'.cell? ⟨zb,7,none⟩=some (.int .i64 yl)∧w'.cell? ⟨zb,8,none⟩=some (.bool ym)∧w'.cell? ⟨zb,9,none⟩=some (.slice (some y4) yb.length yq)∧w'.cell? ⟨yf,(ya).toNat,none⟩=some (.int .i64 (rd zg ya))∧w'.cell? (y4.add ((rd zg ya)).toNat)=some (.int .i64 (rd yb (rd zg ya)))) fbd.tab18 fbd.bits18 (c10 za ⟨yw,(zW HB y1)⟩) (fun hHeld HT_ HW_=>?_)
 generalize w48.drew=w49 at zp zd ze HL540_0 zl za zc zf HB GG43 HQ51 hf43_0 yae yw y6 hHeld ⊢
 refine pQ 0 75 14 1 HT_ ?_
 refine pQ 1 76 14 3 HT_ ?_
 refine pQ 3 78 14 11 HT_ ?_
 refine pQ 5 80 14 43 HT_ ?_
 refine pQ 6 81 14 107 HT_ ?_
 refine pU12 2 77 14 111 HT_ HW_ hHeld ?_
 refine pU12 4 79 14 127 HT_ HW_ hHeld ?_
 refine pU12 7 82 14 255 HT_ HW_ hHeld ?_
 refine pQ 8 83 14 511 HT_ ?_
 refine pU12 9 84 14 1023 HT_ HW_ hHeld ?_
 refine pQ 10 85 14 2047 HT_ ?_
 refine pU12 11 86 14 4095 HT_ HW_ hHeld ?_
 refine pQ 12 87 14 8191 HT_ ?_
 refine last_ (i:=13) (N:=none) (bm 14 16383) rfl rfl (one_of HT_.out (by kernel_rfl)) (by decide) (fun K hK=>?_)
 refine skip_ (w1:=?_) (by rfl) rfl ?_ ?_
 rotate_left
 ·go_simp
  rfl
 refine hK.out _ _ ?_
 clear hK K
 refine dN HT_ ?_
 have n0_:Aside0 (Kd.N (Kd.slice 3 (Kd.int .i64)) 22 (w49.setCell ⟨yf,(ya:Int).toNat,none⟩ (.int .i64 (rd yb (rd zg ya)))) w.heap.size (fun k_=>some k_≠((.slice zt zk.length zu):Value).ownBlock∧some k_≠(u534002:Value).ownBlock∧some k_≠(.slice (some ⟨yf,0,none⟩) zg.length zac:Value).ownBlock∧k_≠zb∧k_≠zn∧k_≠zo) (.slice (some yy) zm.length zao) zm):=⟨by(with_reducible repeat(first|apply Kd.N_alloc|apply Kd.N_drewN|apply Kd.N_drew));exact Kd.N_mono (Kd.N_far (p:=⟨yf,(ya:Int).toNat,none⟩) (Kd.N_mono zp.out (fun k_ hk=>(⟨hk,fun e_=>hk.2 (by rw [e_];rfl)⟩:_∧k_≠yf))) (fun _ hk=>hk.2) (.int .i64 (rd yb (rd zg ya)))) (fun _ hk=>⟨hk.1.1.1,⟨hk.1.1.2.1,⟨hk.1.2,⟨hk.1.1.2.2.1,⟨hk.1.1.2.2.2.1,hk.1.1.2.2.2.2⟩⟩⟩⟩⟩)⟩
 have n1_:Aside0 (Kd.R (Kd.int .i64) 3 (w49.setCell ⟨yf,(ya:Int).toNat,none⟩ (.int .i64 (rd yb (rd zg ya)))) w.heap.size (fun k_=>some k_≠(u534002:Value).ownBlock∧some k_≠(.slice (some ⟨yf,0,none⟩) zg.length zac:Value).ownBlock) (.slice zt zk.length zu) zk):=⟨by(with_reducible repeat(first|apply rA|apply rN|apply rD));exact Kd.R_mono (Kd.R_far (p:=⟨yf,(ya:Int).toNat,none⟩) (Kd.R_mono zd.out (fun k_ hk=>(⟨hk,fun e_=>hk.2 (by rw [e_];rfl)⟩:_∧k_≠yf))) (fun _ hk=>hk.2) (.int .i64 (rd yb (rd zg ya)))) (fun _ hk=>⟨hk.1.1,hk.1.2⟩)⟩
 have n2_:Aside0 (Kd.R (Kd.int .i64) 3 (w49.setCell ⟨yf,(ya:Int).toNat,none⟩ (.int .i64 (rd yb (rd zg ya)))) w.heap.size (fun k_=>some k_≠((.slice zt zk.length zu):Value).ownBlock∧some k_≠(.slice (some ⟨yf,0,none⟩) zg.length zac:Value).ownBlock) u534002 zi):=⟨by(with_reducible repeat(first|apply rA|apply rN|apply rD));exact Kd.R_mono (Kd.R_far (p:=⟨yf,(ya:Int).toNat,none⟩) (Kd.R_mono ze.out (fun k_ hk=>(⟨hk,fun e_=>hk.2 (by rw [e_];rfl)⟩:_∧k_≠yf))) (fun _ hk=>hk.2) (.int .i64 (rd yb (rd zg ya)))) (fun _ hk=>⟨hk.1.1,hk.1.2⟩)⟩
 have n3_:Aside0 (Kd.V (Kd.int .i64) 3 (w49.setCell ⟨yf,(ya:Int).toNat,none⟩ (.int .i64 (rd yb (rd zg ya)))) w.heap.size (fun k_=>some k_≠(.slice (some yy) zm.length zao:Value).ownBlock∧some k_≠((.slice zt zk.length zu):Value).ownBlock∧some k_≠(u534002:Value).ownBlock∧some k_≠(.slice (some ⟨yf,0,none⟩) zg.length zac:Value).ownBlock∧k_≠zb∧k_≠zn∧k_≠zo) (.slice yaa (rd_L1 zm yd).length yab) (rd_L1 zm yd)):=⟨by(with_reducible repeat(first|apply Kd.V_alloc|apply Kd.V_drewN|apply Kd.V_drew));exact Kd.V_mono (Kd.V_far (p:=⟨yf,(ya:Int).toNat,none⟩) (Kd.V_mono HL540_0.out (fun k_ hk=>(⟨hk,fun e_=>hk.2 (by rw [e_];rfl)⟩:_∧k_≠yf))) (fun _ hk=>hk.2) (.int .i64 (rd yb (rd zg ya)))) (fun _ hk=>⟨hk.1.1.1,⟨hk.1.1.2.1,⟨hk.1.1.2.2.1,⟨hk.1.2,⟨hk.1.1.2.2.2.1,⟨hk.1.1.2.2.2.2.1,hk.1.1.2.2.2.2.2⟩⟩⟩⟩⟩⟩)⟩
 have n4_:Aside0 (Kd.R (Kd.int .i64) 3 (w49.setCell ⟨yf,(ya:Int).toNat,none⟩ (.int .i64 (rd yb (rd zg ya)))) w.heap.size (fun k_=>some k_≠((.slice zt zk.length zu):Value).ownBlock∧some k_≠(u534002:Value).ownBlock) (.slice (some ⟨yf,0,none⟩) zg.length zac) zam):=⟨pR HQ51.out⟩
 have n5_:Aside0 ((w49.setCell ⟨yf,(ya:Int).toNat,none⟩ (.int .i64 (rd yb (rd zg ya)))).heap[zb]?=some (.cells (aT ya ye yg yh yi yj yk yl ym (some y4) yb.length yq) 24 (0,0))):=⟨by(with_reducible repeat(first|apply bN|apply bD|apply bA));refine blk_far ?_ (by have h_:=Kd.R_ne zl.out za.out (by decide);intro e_;exact h_ (by rw [e_];rfl)) _;(with_reducible repeat(first|apply bN|apply bD|apply bA));exact za.out⟩
 have n6_:Aside0 ((w49.setCell ⟨yf,(ya:Int).toNat,none⟩ (.int .i64 (rd yb (rd zg ya)))).heap[zn]?=some (.cells #[.slice none 0 0,.slice none 0 0,.slice none 0 0] 32 (0,0))):=⟨by(with_reducible repeat(first|apply bN|apply bD|apply bA));refine blk_far ?_ (by have h_:=Kd.R_ne zl.out zc.out (by decide);intro e_;exact h_ (by rw [e_];rfl)) _;(with_reducible repeat(first|apply bN|apply bD|apply bA));exact zc.out⟩
 have n7_:Aside0 ((w49.setCell ⟨yf,(ya:Int).toNat,none⟩ (.int .i64 (rd yb (rd zg ya)))).heap[zo]?=some (.cells #[(.slice zt zk.length zu),.slice none 0 0,u534002] 32 (0,0))):=⟨by(with_reducible repeat(first|apply bN|apply bD|apply bA));refine blk_far ?_ (by have h_:=Kd.R_ne zl.out zf.out (by decide);intro e_;exact h_ (by rw [e_];rfl)) _;(with_reducible repeat(first|apply bN|apply bD|apply bA));exact zf.out⟩
 have n8_:Aside0 (Below w.heap.size w (w49.setCell ⟨yf,(ya:Int).toNat,none⟩ (.int .i64 (rd yb (rd zg ya))))):=⟨qB4 HB GB43 zh zj zy⟩
 (try clear zp)
 (try clear zd)
 (try clear ze)
 (try clear HL540_0)
 (try clear zl)
 (try clear za)
 (try clear zc)
 (try clear zf)
 (try clear HB)
 generalize (w49.setCell ⟨yf,(ya:Int).toNat,none⟩ (.int .i64 (rd yb (rd zg ya))))=w52 at n0_ n1_ n2_ n3_ n4_ n5_ n6_ n7_ n8_ ⊢
 have zp:=n0_
 have zd:=n1_
 have ze:=n2_
 have HL540_0:=n3_
 have zl:=n4_
 have za:=n5_
 have zc:=n6_
 have zf:=n7_
 have HB:=n8_
 clear n0_ n1_ n2_ n3_ n4_ n5_ n6_ n7_ n8_
 try go_wp2
 replace zp:=aM (Kd.N_drew zp.out)
 replace zd:=aM (Kd.R_drew zd.out)
 replace ze:=aM (Kd.R_drew ze.out)
 replace HL540_0:=aM (Kd.V_drew HL540_0.out)
 replace zl:=aM (Kd.R_drew zl.out)
 replace za:=aM (blk_drew za.out)
 replace zc:=aM (blk_drew zc.out)
 replace zf:=aM (blk_drew zf.out)
 replace HB:=aM (below_drew1 HB.out)
 refine sT 9 [8] (fun w'=>w'.cell? ⟨zo,0,none⟩=some ((.slice zt zk.length zu))∧w'.cell? ⟨zo,1,none⟩=some (.slice none 0 0)∧w'.cell? ⟨zo,2,none⟩=some (u534002)) fbd.tab19 fbd.bits19 (h3 zf) (fun hHeld HT_ HW_=>?_)
 generalize w52.drew=w53 at zp zd ze HL540_0 zl za zc zf HB hHeld ⊢
 refine pQ 0 88 9 1 HT_ ?_
 refine pQ 2 90 9 5 HT_ ?_
 refine pQ 3 91 9 13 HT_ ?_
 refine pU3 1 89 9 15 HT_ HW_ hHeld ?_
 refine oN 4 92 9 31 HT_ (fun K hK=>?_)
 refine goes_ Try.func64 (by kernel_rfl) rfl #[.slice zt zk.length zu,.slice (some ⟨yf,0,none⟩) zam.length zac] (by rfl) rfl rfl (by(try simp only [List.map_toArray,List.map_cons,List.map_nil]);first|done|(rw [show zam.length=zg.length from (Kd.R_reads' zl.out).1.symm] <;> rfl)|rfl|(simp only [List.length_drop,List.length_take];rfl)) ?_
 with_reducible refine(fan.calls k2 _ _ zk _ _ zam z4 _ ?s1 ?s2 ?s3 ?s4 A44.out).mono ?_
 (case s1=>exact sR zd)
 (case s2=>exact sL zd)
 (case s3=>exact sR zl)
 (case s4=>rw [show zam.length=zg.length from (Kd.R_reads' zl.out).1.symm];exact sL zl)
 rintro e w54 ⟨rfl,hb⟩
 refine⟨_,rfl,?_⟩
 replace zp:=aM (Kd.N_below (by(with_reducible repeat(first|apply Kd.N_alloc|apply Kd.N_drewN|apply Kd.N_drew));exact zp.out) hb)
 replace zd:=bR zd hb
 replace ze:=bR ze hb
 replace HL540_0:=aM (Kd.V_below (pV HL540_0.out) hb)
 replace zl:=bR zl hb
 replace za:=bK za hb
 replace zc:=bK zc hb
 replace zf:=bK zf hb
 replace HB:=bS (qB3 HB zh zj zy) hb
 (try clear hb)
 (try clear hk)
 (try clear hi)
 refine hK.out _ _ (h3 zf) (fun hHeld=>?_)
 clear hK K
 refine norm_ (a':=?_) ?_ ?_
 rotate_left
 ·show Act.put _ (some 92) _=_
  simp only [Act.put,sP,i64_w,i32_w]
  rfl
 refine oN 5 93 9 63 HT_ (fun K hK=>?_)
 refine value_ (w1:=?_) (v:=?_) (by rfl) rfl ?_ ?_
 rotate_left 2
 ·go_simp
  constructor
  ·rfl
  ·rfl
 refine hK.out _ _ ⟨(blk_cell (blk_alloc zf.out _) 0).trans rfl,(blk_cell (blk_alloc zf.out _) 1).trans rfl,(blk_cell (blk_alloc zf.out _) 2).trans rfl⟩ (fun hHeld=>?_)
 clear hK K
 refine norm_ (a':=?_) ?_ ?_
 rotate_left
 ·show Act.put _ (some 93) _=_
  simp only [Act.put,sP,i64_w,i32_w]
  rfl
 refine oN 6 94 9 127 HT_ (fun K hK=>?_)
 refine Kd.R_append_step (Kd.int .i64) (w0:=w) w.heap.size (by rfl) (.tmp 89) (.tmp 93) 22 3 (.int .i64 0) 8 rfl Try.underlying22 info3 rfl (by decide) (by omega) u534002 zi z4 [.int .i64 z4] (fun k_=>some k_≠((.slice zt zk.length zu):Value).ownBlock∧some k_≠(.slice (some ⟨yf,0,none⟩) zg.length zac:Value).ownBlock) (fun _=>False) rfl rfl ?aP (fun _ hk=>hk.elim) ?aF ?aO ?aB ?aS ?aL ?_
 (case aP=>exact rfl)
 (case aB=>exact(qB3 HB zh zj zy))
 (case aF=>exact(fun k_ hk=>⟨Kd.fresh' (Kd.R_lt (pR zd.out)) k_ hk,Kd.fresh' (Kd.R_lt (pR zl.out)) k_ hk⟩))
 (case aO=>exact(pR ze.out))
 (case aS=>exact(below_size (qB3 HB zh zj zy)))
 (case aL=>have:=LMc45.out;omega)
 intro v549 w55 ho hb hg hat
 rw [← Ny548.out] at ho
 replace zp:=aM (Kd.N_afterv (ok:=(fun k_=>some k_≠((.slice zt zk.length zu):Value).ownBlock∧some k_≠(.slice (some ⟨yf,0,none⟩) zg.length zac:Value).ownBlock∧k_≠zb∧k_≠zn∧k_≠zo)) (by(with_reducible repeat(first|apply Kd.N_alloc|apply Kd.N_drewN|apply Kd.N_drew));exact Kd.N_mono zp.out (fun _ hk=>⟨⟨hk.1,⟨hk.2.2.1,⟨hk.2.2.2.1,⟨hk.2.2.2.2.1,hk.2.2.2.2.2⟩⟩⟩⟩,hk.2.1⟩)) hg hat)
 replace zd:=aM (Kd.R_after (ok:=(fun k_=>some k_≠(.slice (some ⟨yf,0,none⟩) zg.length zac:Value).ownBlock)) (by(with_reducible repeat(first|apply rA|apply rN|apply rD));exact Kd.R_mono zd.out (fun _ hk=>⟨hk.2,hk.1⟩)) hg hat)
 replace za:=aM (blk_grown (g:=zb) (pK za.out) hg (Kd.R_ne ze.out za.out (by decide)))
 replace zc:=aM (blk_grown (g:=zn) (pK zc.out) hg (Kd.R_ne ze.out zc.out (by decide)))
 replace zf:=aM (blk_grown (g:=zo) (pK zf.out) hg (Kd.R_ne ze.out zf.out (by decide)))
 replace HL540_0:=aM (Kd.V_afterv (ok:=(fun k_=>some k_≠(.slice (some yy) zm.length zao:Value).ownBlock∧some k_≠((.slice zt zk.length zu):Value).ownBlock∧some k_≠(.slice (some ⟨yf,0,none⟩) zg.length zac:Value).ownBlock∧k_≠zb∧k_≠zn∧k_≠zo)) (by(with_reducible repeat(first|apply Kd.V_alloc|apply Kd.V_drewN|apply Kd.V_drew));exact Kd.V_mono HL540_0.out (fun _ hk=>⟨⟨hk.1,⟨hk.2.1,⟨hk.2.2.2.1,⟨hk.2.2.2.2.1,⟨hk.2.2.2.2.2.1,hk.2.2.2.2.2.2⟩⟩⟩⟩⟩,hk.2.2.1⟩)) hg hat)
 replace zl:=aM (Kd.R_after (ok:=(fun k_=>some k_≠((.slice zt zk.length zu):Value).ownBlock)) (pR zl.out) hg hat)
 replace HB:=aM (hb)
 have zay:=aM (ho)
 clear ze
 clear ho hb hg hat
 obtain⟨zat,zau,za9⟩:=Kd.R_slice zay.out
 (first|subst za9|(injection za9 with f1_ f2_ f3_;have f4_:=f1_.symm;have f5_:=f3_.symm;clear f1_ f2_ f3_;subst f4_;subst f5_))
 refine hK.out _ _ (h3 zf) (fun hHeld=>?_)
 clear hK K
 refine norm_ (a':=?_) ?_ ?_
 rotate_left
 ·show Act.put _ (some 94) _=_
  simp only [Act.put,sP,i64_w,i32_w]
  rfl
 refine pQ 7 95 9 255 HT_ ?_
 refine last_ (i:=8) (N:=none) (bm 9 511) rfl rfl (one_of HT_.out (by kernel_rfl)) (by decide) (fun K hK=>?_)
 have hs57:w55.cell? ⟨zo,2,none⟩=some (u534002):=(blk_cell zf.out 2).trans rfl
 have hfs57:=blk_frozen zf.out 2
 have hns57_0:=zw.out
 have hns57_1:=zx.out
 have hms57_0:=z2.out
 have hms57_1:=z3.out
 refine skip_ (w1:=?_) (by rfl) rfl ?_ ?_
 rotate_left
 ·go_simp
  rfl
 refine hK.out _ _ ?_
 clear hK K
 refine dN HT_ ?_
 try go_wp2
 go_roundg k2
 case measure=>have:=HK1.out;have:=HK2.out;omega
 case rel=>exact⟨(wrap64 (yd + 1)),(zan),(.slice zat zan.length zau),(pF),H',⟨pO2 HK1 HK2⟩,⟨by(with_reducible repeat(first|apply Kd.N_alloc|apply Kd.N_drewN|apply Kd.N_drew));exact Kd.N_mono (Kd.N_far (p:=⟨zo,2,none⟩) (Kd.N_mono zp.out (fun k_ hk=>(⟨hk,hk.1.2.2.2.2⟩:_∧k_≠zo))) (fun _ hk=>hk.2) (.slice zat zan.length zau)) (fun _ hk=>⟨hk.1.1.1,⟨hk.1.2,⟨hk.1.1.2.2.1,⟨hk.1.1.2.2.2.1,hk.1.1.2.2.2.2⟩⟩⟩⟩)⟩,⟨by(with_reducible repeat(first|apply rA|apply rN|apply rD));exact Kd.R_mono (Kd.R_far (p:=⟨zo,2,none⟩) (Kd.R_types zd.out zf.out (by decide)) (fun _ hk=>hk.2) (.slice zat zan.length zau)) (fun _ hk=>hk.1.2)⟩,⟨by(with_reducible repeat(first|apply rA|apply rN|apply rD));exact Kd.R_mono (Kd.R_far (p:=⟨zo,2,none⟩) (Kd.R_types zay.out zf.out (by decide)) (fun _ hk=>hk.2) (.slice zat zan.length zau)) (fun _ hk=>hk.1.1)⟩,⟨by(with_reducible repeat(first|apply bN|apply bD|apply bA));refine blk_far ?_ zw.out _;(with_reducible repeat(first|apply bN|apply bD|apply bA));exact za.out⟩,⟨by(with_reducible repeat(first|apply bN|apply bD|apply bA));refine blk_far ?_ zx.out _;(with_reducible repeat(first|apply bN|apply bD|apply bA));exact zc.out⟩,⟨by(with_reducible repeat(first|apply bN|apply bD|apply bA));refine blk_put (cs:=#[(.slice zt zk.length zu),.slice none 0 0,u534002]) ?_ 2 _ rfl;(with_reducible repeat(first|apply bN|apply bD|apply bA));exact zf.out⟩,⟨qB3 HB zh zj zy⟩⟩
mutual
def faq.l0:Nat→List Int→List Int→Option (List Int×Int)
 | 0,_,_=>none
 | k + 1,x0,x1=>if(x0.length:Int) < (x1.length:Int)then((some (([1]:List Int):List Int)).bind fun zg=>(if zg.length + x0.length < 17592186044416 then(faq.l0 k (zg ++ x0) x1)else(none)))else(faq.l1 k x0 x1)
def faq.l1:Nat→List Int→List Int→Option (List Int×Int)
 | 0,_,_=>none
 | k + 1,x0,x1=>if(x1.length:Int) < (x0.length:Int)then((some (([1]:List Int):List Int)).bind fun zh=>(if zh.length + x1.length < 17592186044416 then(faq.l1 k x0 (zh ++ x1))else(none)))else(faq.l2 k x0 x1 ([]:List Int) (x0.length:Int) 0)
def faq.l2:Nat→List Int→List Int→List Int→Int→Int→Option (List Int×Int)
 | 0,_,_,_,_,_=>none
 | k + 1,x0,x1,x8,x37,x38=>if x38 < x37 then(if 0≤x38 then(if x38 < (x0.length:Int)then(if x38 < (x1.length:Int)then(if(rd x0 x38)=(rd x1 x38)then(if x8.length < 17592186044416 then(faq.l2 k x0 x1 (x8 ++ [mx (rd x0 x38) (rd x1 x38)]) x37 (wrap64 (x38 + 1)))else(none))else(if(rd x0 x38)=1 then(if x8.length < 17592186044416 then(faq.l2 k x0 x1 (x8 ++ [mx (rd x0 x38) (rd x1 x38)]) x37 (wrap64 (x38 + 1)))else(none))else(if(rd x1 x38)=1 then(if x8.length < 17592186044416 then(faq.l2 k x0 x1 (x8 ++ [mx (rd x0 x38) (rd x1 x38)]) x37 (wrap64 (x38 + 1)))else(none))else(some (([]:List Int),8)))))else(none))else(none))else(none))else((fag.f k x8).bind fun zf=>(if zf=0 then(some (x8,0))else(some (([]:List Int),zf))))
end
def faq.f (k:Nat) (l0:List Int) (l1:List Int):Option (List Int×Int):=(fag.f k l0).bind fun zd=>((fag.f k l1).bind fun ze=>(if zd=0 then(if ze=0 then(faq.l0 k l0 l1)else(some (([]:List Int),ze)))else(some (([]:List Int),zd))))
def faq.T14:TT:=(true,[([],[]),([],[]),([0,1],[0,1]),([2],[2]),([],[]),([],[]),([4,5],[4,5]),([6],[6]),([3,7],[3,7]),([8],[8]),([9],[9]),([9],[9]),([10,11,9],[9,10,11]),([12,9],[9,12]),([13,9],[9,13]),([9,14],[9,14]),([15,9],[15]),([16],[16]),([16],[16]),([17,18,16],[16,17,18]),([19,16],[16,19]),([20,16],[16,20]),([16,21],[16,21])])
def faq.B14:List Nat:=[0,0,3,7,0,0,48,112,255,511,1023,1023,4095,8191,16383,32767,65535,131071,131071,524287,1048575,2097151,4194303]
theorem faq.tab14:rtab .any (opsOf Try.f79 14)=faq.T14:=by kernel_rfl
theorem faq.bits14:waitsOk faq.T14.2 faq.B14=true:=by kernel_rfl
def faq.T16:TT:=(true,[([],[]),([],[]),([],[]),([1,2],[1,2]),([3],[3]),([],[]),([],[]),([5,6],[5,6]),([7],[7]),([4,8],[4,8]),([9],[9]),([0,10],[0,10]),([11,11,0,1,2,3,4,5,6,7,8,9,10,11],[0,11])])
def faq.B16:List Nat:=[0,0,0,6,14,0,0,96,224,510,1022,2047,4095]
theorem faq.tab16:rtab .any (opsOf Try.f79 16)=faq.T16:=by kernel_rfl
theorem faq.bits16:waitsOk faq.T16.2 faq.B16=true:=by kernel_rfl
theorem faq.calls (k:Nat)(P0_:Nat→Prop)(A0:Option Addr)(c0:Nat)(l0:List Int)(P1_:Nat→Prop)(A1:Option Addr)(c1:Nat)(l1:List Int)(r1:List Int) (r2:Int)(w:World)(hs0:Kd.V (Kd.int .i64) 3 w w.heap.size (fun k_=>P0_ k_) (.slice A0 l0.length c0) l0)(hs1:Kd.V (Kd.int .i64) 3 w w.heap.size (fun k_=>P1_ k_) (.slice A1 l1.length c1) l1)(h:faq.f k l0 l1=some (r1,r2)) :
  Calls Try.prog 79 #[.slice A0 l0.length c0,.slice A1 l1.length c1] w fun e w'=>∃ v0_:Value,e=.returned (.tuple #[v0_,.int .i64 r2])∧Kd.R (Kd.int .i64) 3 w' w.heap.size (fun k_=>(w.heap.size≤k_)) v0_ r1∧Below w.heap.size w w':=by
 have HO0:=aM (show Kd.V (Kd.int .i64) 3 w w.heap.size (fun k_=>((P0_ k_∨P1_ k_)∨w.heap.size≤k_)) (.slice A0 l0.length c0) l0 from Kd.V_mono hs0 (fun k_ hk=>.inl (.inl hk)))
 have HO1:=aM (show Kd.V (Kd.int .i64) 3 w w.heap.size (fun k_=>((P0_ k_∨P1_ k_)∨w.heap.size≤k_)) (.slice A1 l1.length c1) l1 from Kd.V_mono hs1 (fun k_ hk=>.inl (.inr hk)))
 have HB:=aM (Below.refl w.heap.size w)
 have H:((fag.f k l0).bind fun zd=>((fag.f k l1).bind fun ze=>(if zd=0 then(if ze=0 then(faq.l0 k l0 l1)else(some (([]:List Int),ze)))else(some (([]:List Int),zd)))))=some (r1,r2):=h
 clear h
 replace H:=oB H
 obtain⟨zd,A30,H⟩:=H
 try dsimp only at H
 have A3:=aM A30
 clear A30
 replace H:=oB H
 obtain⟨ze,A40,H⟩:=H
 try dsimp only at H
 have A4:=aM A40
 clear A40
 by_cases c5:zd=0
 rotate_left
 ·rw [iN c5] at H
  have zv:=bF c5
  have zw:=nT c5
  replace H:=oi2 H
  obtain⟨rfl,rfl⟩:=H
  go_enter Try.func79,Try.ntmps79
  go_wp2_with (first|((with_reducible refine gC 30 rfl ?_);refine gL 11 Try.func30 #[.slice A0 l0.length c0] ?_;(with_reducible refine(fag.calls k _ _ l0 zd _ ?s1 ?s2 A3.out).mono ?_);(case s1=>exact pC (Kd.V_reads' HO0.out).2.2);(case s2=>exact(Kd.V_reads' HO0.out).2.1);rintro e w' ⟨rfl,⟨nd,rfl⟩⟩;refine⟨_,rfl,?_⟩)|((with_reducible refine gC 30 rfl ?_);refine gL 13 Try.func30 #[.slice A1 l1.length c1] ?_;(with_reducible refine(fag.calls k _ _ l1 ze _ ?s1 ?s2 A4.out).mono ?_);(case s1=>exact pC (Kd.V_reads' HO1.out).2.2);(case s2=>exact(Kd.V_reads' HO1.out).2.1);rintro e w' ⟨rfl,⟨nd,rfl⟩⟩;refine⟨_,rfl,?_⟩))
  go_ret2
  exact⟨_,pE,pN,qB HB⟩
 rw [ip c5] at H
 have zv:=bT c5
 have zw:=nF c5
 clear c5
 by_cases c6:ze=0
 rotate_left
 ·rw [iN c6] at H
  have zx:=bF c6
  have zy:=nT c6
  replace H:=oi2 H
  obtain⟨rfl,rfl⟩:=H
  go_enter Try.func79,Try.ntmps79
  go_wp2_with (first|((with_reducible refine gC 30 rfl ?_);refine gL 11 Try.func30 #[.slice A0 l0.length c0] ?_;(with_reducible refine(fag.calls k _ _ l0 zd _ ?s1 ?s2 A3.out).mono ?_);(case s1=>exact pC (Kd.V_reads' HO0.out).2.2);(case s2=>exact(Kd.V_reads' HO0.out).2.1);rintro e w' ⟨rfl,⟨nd,rfl⟩⟩;refine⟨_,rfl,?_⟩)|((with_reducible refine gC 30 rfl ?_);refine gL 13 Try.func30 #[.slice A1 l1.length c1] ?_;(with_reducible refine(fag.calls k _ _ l1 ze _ ?s1 ?s2 A4.out).mono ?_);(case s1=>exact pC (Kd.V_reads' HO1.out).2.2);(case s2=>exact(Kd.V_reads' HO1.out).2.1);rintro e w' ⟨rfl,⟨nd,rfl⟩⟩;refine⟨_,rfl,?_⟩))
  go_ret2
  exact⟨_,pE,pN,qB HB⟩
 rw [ip c6] at H
 have zx:=bT c6
 have zy:=nF c6
 clear c6
 have H':=aM H
 clear H
 go_enter Try.func79,Try.ntmps79
 go_wp2_with (first|((with_reducible refine gC 30 rfl ?_);refine gL 11 Try.func30 #[.slice A0 l0.length c0] ?_;(with_reducible refine(fag.calls k _ _ l0 zd _ ?s1 ?s2 A3.out).mono ?_);(case s1=>exact pC (Kd.V_reads' HO0.out).2.2);(case s2=>exact(Kd.V_reads' HO0.out).2.1);rintro e w' ⟨rfl,⟨nd,rfl⟩⟩;refine⟨_,rfl,?_⟩)|((with_reducible refine gC 30 rfl ?_);refine gL 13 Try.func30 #[.slice A1 l1.length c1] ?_;(with_reducible refine(fag.calls k _ _ l1 ze _ ?s1 ?s2 A4.out).mono ?_);(case s1=>exact pC (Kd.V_reads' HO1.out).2.2);(case s2=>exact(Kd.V_reads' HO1.out).2.1);rintro e w' ⟨rfl,⟨nd,rfl⟩⟩;refine⟨_,rfl,?_⟩))
 go_loopg [0] k (fun kq v0 w'=>∃ (yb:List Int),Aside0 (faq.l0 kq yb l1=some (r1,r2))∧Aside0 (kq≤k)∧Aside0 (Kd.V (Kd.int .i64) 3 w' w.heap.size (fun k_=>((P0_ k_∨P1_ k_)∨w.heap.size≤k_)) v0 yb)∧Aside0 (Kd.V (Kd.int .i64) 3 w' w.heap.size (fun k_=>((P0_ k_∨P1_ k_)∨w.heap.size≤k_)) (.slice A1 l1.length c1) l1)∧Aside0 (Below w.heap.size w w'))
 case atStart=>exact⟨(l0),H',⟨Nat.le_refl _⟩,⟨pV HO0.out⟩,⟨pV HO1.out⟩,⟨qB HB⟩⟩
 clear H'
 try clear c1
 try clear zv
 try clear zw
 try clear zx
 try clear zy
 obtain⟨yb,HA,HK1,za,zb,HB⟩:=hrel
 cases gk with
 | zero=>exact absurd HA.out (by simp [faq.l0])
 | succ k1=>?_
 have H:=HA.out
 clear HA
 simp only [faq.l0] at H
 by_cases c7:(yb.length:Int) < (l1.length:Int)
 ·rw [ip c7] at H
  have zz:=dT c7
  have z0:decide (yb.length < l1.length)=true:=decide_eq_true (Int.ofNat_lt.mp c7)
  clear c7
  obtain⟨zg,zi⟩:∃ y_:List Int,y_=(([1]:List Int)):=⟨_,rfl⟩
  replace H:(if zg.length + yb.length < 17592186044416 then(faq.l0 k1 (zg ++ yb) l1)else(none))=some (r1,r2):=pH zi H
  have zp:=aM zi
  clear zi
  by_cases c8:zg.length + yb.length < 17592186044416
  rotate_left
  ·rw [iN c8] at H
   cases H
  rw [ip c8] at H
  have LMc8:=aM c8
  clear c8
  obtain⟨z1,zj⟩:∃ y_:List Int,y_=(zg ++ yb):=⟨_,rfl⟩
  replace H:(faq.l0 k1 z1 l1)=some (r1,r2):=pH zj H
  have Ny691:=aM zj
  clear zj
  have H':=aM H
  clear H
  obtain⟨Ao9,co9,eo9⟩:=Kd.V_slice za.out
  subst eo9
  go_wp2_with (first|((with_reducible refine gD 25 rfl ?_);refine Kd.R_lit (Kd.int .i64) _ 3 ?hg (N:=25) ?hd (xs:=([1]:List Int)) (inner:=[.int .i64 1]) (ok:=fun _=>True) (okp:=fun _=>True) ?hr ?hp (fun _ hk=>hk) trivial (Below.refl _ _) (Nat.le_refl _) (by simp) ?_;(case hd=>rfl);(case hg=>rfl);(case hr=>first|(go_simp;done)|(go_simp;rfl));(case hp=>exact(Reps.one (show Kd.M (Kd.int .i64) _ _ _ 1 [.int .i64 1] from rfl) (Reps.none _ _)));intro v689 w10 ho11 hb hg_ hnew_;clear hg_ hnew_;(first|rw [← zp.out] at ho11|(simp only [Int.reduceToNat] at ho11;rw [← zp.out] at ho11));replace za:=aM (Kd.V_elder' (pV za.out) (Kd.R_base ho11) hb);replace zb:=aM (Kd.V_elder' (pV zb.out) (Kd.R_base ho11) hb);have zq:=aM (Kd.R_lower (Kd.R_newM (M:=fun k_=>(w.heap.size≤k_)) ho11 (below_size (qB HB)) (fun k_ h_=>h_)) (below_size (qB HB)));replace HB:=bS (qB HB) hb;clear hb ho11)|((with_reducible refine gate_builtin (b:=.append) (xs:=#[.tmp 25,.tmp 26]) rfl ?_);at_builtin;refine Kd.R_append_rows (Kd.int .i64) (w0:=w) w.heap.size rfl (.tmp 25) (.tmp 26) 22 3 (.int .i64 0) 8 rfl Try.underlying22 info3 rfl (by decide) (by omega) v689 zg yb _ _ _ (fun k_=>(w.heap.size≤k_)) (fun _=>False) rfl rfl ?aO ?aR (fun _ _ h=>h) (fun _ h=>h.elim) ?aF ?aB ?aS ?aL ?_;(case aR=>exact pC (Kd.V_reads' za.out).2.2);(case aB=>exact(qB HB));(case aF=>exact(fun k_ hk=>(Nat.le_trans (below_size (qB HB)) hk)));(case aO=>exact(by(with_reducible repeat(first|apply rA|apply rN|apply rD));exact Kd.R_mono zq.out (fun _ hk=>hk.1)));(case aS=>exact(below_size (qB HB)));(case aL=>have:=LMc8.out;omega);intro v692 w12 ho hb hg hat;rw [← Ny691.out] at ho;replace za:=aM (Kd.V_afterv (ok:=(fun k_=>((P0_ k_∨P1_ k_)∨w.heap.size≤k_))) (pV za.out) hg hat);replace zb:=aM (Kd.V_afterv (ok:=(fun k_=>((P0_ k_∨P1_ k_)∨w.heap.size≤k_))) (pV zb.out) hg hat);replace HB:=aM (hb);have HO693:=aM (ho);clear zq;clear ho hb hg hat))
  go_roundg k1
  case measure=>have:=HK1.out;omega
  case rel=>exact⟨(z1),H',⟨pO1 HK1⟩,⟨Kd.V_mono (Kd.R_V (pR HO693.out)) (fun k_ hk=>by first|exact⟨(.inr (hk.1)),hk.2⟩|exact(.inr (hk)))⟩,⟨by(with_reducible repeat(first|apply Kd.V_alloc|apply Kd.V_drewN|apply Kd.V_drew));exact Kd.V_mono zb.out (fun _ hk=>hk.1)⟩,⟨qB HB⟩⟩
 rw [iN c7] at H
 have zz:=dF c7
 have z0:decide (yb.length < l1.length)=false:=decide_eq_false (fun h=>c7 (Int.ofNat_lt.mpr h))
 clear c7
 have H':=aM H
 clear H
 obtain⟨z2,z3,yaf⟩:=Kd.V_slice za.out
 subst yaf
 go_wp2
 go_loopg [1] k1 (fun kq v1 w'=>∃ (yc:List Int),Aside0 (faq.l1 kq yb yc=some (r1,r2))∧Aside0 (kq≤k1)∧Aside0 (Kd.V (Kd.int .i64) 3 w' w.heap.size (fun k_=>((P0_ k_∨P1_ k_)∨w.heap.size≤k_)) (.slice z2 yb.length z3) yb)∧Aside0 (Kd.V (Kd.int .i64) 3 w' w.heap.size (fun k_=>((P0_ k_∨P1_ k_)∨w.heap.size≤k_)) v1 yc)∧Aside0 (Below w.heap.size w w'))
 case atStart=>exact⟨(l1),H',⟨Nat.le_refl _⟩,⟨pV za.out⟩,⟨pV zb.out⟩,⟨qB HB⟩⟩
 clear H'
 try clear zz
 try clear z0
 obtain⟨yc,HA,HK2,za,zb,HB⟩:=hrel
 cases gk with
 | zero=>exact absurd HA.out (by simp [faq.l1])
 | succ k2=>?_
 have H:=HA.out
 clear HA
 simp only [faq.l1] at H
 by_cases c14:(yc.length:Int) < (yb.length:Int)
 ·rw [ip c14] at H
  have zr:=dT c14
  have zs:decide (yc.length < yb.length)=true:=decide_eq_true (Int.ofNat_lt.mp c14)
  clear c14
  obtain⟨zh,zk⟩:∃ y_:List Int,y_=(([1]:List Int)):=⟨_,rfl⟩
  replace H:(if zh.length + yc.length < 17592186044416 then(faq.l1 k2 yb (zh ++ yc))else(none))=some (r1,r2):=pH zk H
  have zt:=aM zk
  clear zk
  by_cases c15:zh.length + yc.length < 17592186044416
  rotate_left
  ·rw [iN c15] at H
   cases H
  rw [ip c15] at H
  have LMc15:=aM c15
  clear c15
  obtain⟨z4,zl⟩:∃ y_:List Int,y_=(zh ++ yc):=⟨_,rfl⟩
  replace H:(faq.l1 k2 yb z4)=some (r1,r2):=pH zl H
  have Ny697:=aM zl
  clear zl
  have H':=aM H
  clear H
  obtain⟨Ao16,co16,yag⟩:=Kd.V_slice zb.out
  subst yag
  go_wp2_with (first|((with_reducible refine gD 33 rfl ?_);refine Kd.R_lit (Kd.int .i64) _ 3 ?hg (N:=33) ?hd (xs:=([1]:List Int)) (inner:=[.int .i64 1]) (ok:=fun _=>True) (okp:=fun _=>True) ?hr ?hp (fun _ hk=>hk) trivial (Below.refl _ _) (Nat.le_refl _) (by simp) ?_;(case hd=>rfl);(case hg=>rfl);(case hr=>first|(go_simp;done)|(go_simp;rfl));(case hp=>exact(Reps.one (show Kd.M (Kd.int .i64) _ _ _ 1 [.int .i64 1] from rfl) (Reps.none _ _)));intro v695 w17 ho18 hb hg_ hnew_;clear hg_ hnew_;(first|rw [← zt.out] at ho18|(simp only [Int.reduceToNat] at ho18;rw [← zt.out] at ho18));replace za:=aM (Kd.V_elder' (pV za.out) (Kd.R_base ho18) hb);replace zb:=aM (Kd.V_elder' (pV zb.out) (Kd.R_base ho18) hb);have zu:=aM (Kd.R_lower (Kd.R_newM (M:=fun k_=>(w.heap.size≤k_)) ho18 (below_size (qB HB)) (fun k_ h_=>h_)) (below_size (qB HB)));replace HB:=bS (qB HB) hb;clear hb ho18)|((with_reducible refine gate_builtin (b:=.append) (xs:=#[.tmp 33,.tmp 34]) rfl ?_);at_builtin;refine Kd.R_append_rows (Kd.int .i64) (w0:=w) w.heap.size rfl (.tmp 33) (.tmp 34) 22 3 (.int .i64 0) 8 rfl Try.underlying22 info3 rfl (by decide) (by omega) v695 zh yc _ _ _ (fun k_=>(w.heap.size≤k_)) (fun _=>False) rfl rfl ?aO ?aR (fun _ _ h=>h) (fun _ h=>h.elim) ?aF ?aB ?aS ?aL ?_;(case aR=>exact pC (Kd.V_reads' zb.out).2.2);(case aB=>exact(qB HB));(case aF=>exact(fun k_ hk=>(Nat.le_trans (below_size (qB HB)) hk)));(case aO=>exact(by(with_reducible repeat(first|apply rA|apply rN|apply rD));exact Kd.R_mono zu.out (fun _ hk=>hk.1)));(case aS=>exact(below_size (qB HB)));(case aL=>have:=LMc15.out;omega);intro v698 w19 ho hb hg hat;rw [← Ny697.out] at ho;replace za:=aM (Kd.V_afterv (ok:=(fun k_=>((P0_ k_∨P1_ k_)∨w.heap.size≤k_))) (pV za.out) hg hat);replace zb:=aM (Kd.V_afterv (ok:=(fun k_=>((P0_ k_∨P1_ k_)∨w.heap.size≤k_))) (pV zb.out) hg hat);replace HB:=aM (hb);have HO699:=aM (ho);clear zu;clear ho hb hg hat))
  go_roundg k2
  case measure=>have:=HK1.out;have:=HK2.out;omega
  case rel=>exact⟨(z4),H',⟨pO2 HK1 HK2⟩,⟨by(with_reducible repeat(first|apply Kd.V_alloc|apply Kd.V_drewN|apply Kd.V_drew));exact Kd.V_mono za.out (fun _ hk=>hk.1)⟩,⟨Kd.V_mono (Kd.R_V (pR HO699.out)) (fun k_ hk=>by first|exact⟨(.inr (hk.1)),hk.2⟩|exact(.inr (hk)))⟩,⟨qB HB⟩⟩
 rw [iN c14] at H
 have zr:=dF c14
 have zs:decide (yc.length < yb.length)=false:=decide_eq_false (fun h=>c14 (Int.ofNat_lt.mpr h))
 clear c14
 have H':=aM H
 clear H
 obtain⟨yah,yai,yaj⟩:=Kd.V_slice zb.out
 subst yaj
 go_wp2
 go_loopg [8,38] k2 (fun kq v8 v38 w'=>∃ (yh:List Int) (ya:Int),v38=.int .i64 ya∧Aside0 (faq.l2 kq yb yc yh (yb.length:Int) ya=some (r1,r2))∧Aside0 (kq≤k2)∧Aside0 (Kd.V (Kd.int .i64) 3 w' w.heap.size (fun k_=>((P0_ k_∨P1_ k_)∨w.heap.size≤k_)∧some k_≠(v8:Value).ownBlock) (.slice z2 yb.length z3) yb)∧Aside0 (Kd.V (Kd.int .i64) 3 w' w.heap.size (fun k_=>((P0_ k_∨P1_ k_)∨w.heap.size≤k_)∧some k_≠(v8:Value).ownBlock) (.slice yah yc.length yai) yc)∧Aside0 (Kd.R (Kd.int .i64) 3 w' w.heap.size (fun k_=>(w.heap.size≤k_)) v8 yh)∧Aside0 (Below w.heap.size w w'))
 case atStart=>exact⟨(([]:List Int)),(0),(pF),H',⟨Nat.le_refl _⟩,⟨by(with_reducible repeat(first|apply Kd.V_alloc|apply Kd.V_drewN|apply Kd.V_drew));exact Kd.V_mono za.out (fun _ hk=>⟨hk,(by simp [Value.ownBlock])⟩)⟩,⟨by(with_reducible repeat(first|apply Kd.V_alloc|apply Kd.V_drewN|apply Kd.V_drew));exact Kd.V_mono zb.out (fun _ hk=>⟨hk,(by simp [Value.ownBlock])⟩)⟩,⟨pN⟩,⟨qB HB⟩⟩
 clear H'
 try clear zr
 try clear zs
 obtain⟨yh,ya,rfl,HA,HK3,za,zb,zc,HB⟩:=hrel
 cases gk with
 | zero=>exact absurd HA.out (by simp [faq.l2])
 | succ k3=>?_
 have H:=HA.out
 clear HA
 simp only [faq.l2] at H
 by_cases c21:ya < (yb.length:Int)
 rotate_left
 ·rw [iN c21] at H
  have yy:=dF c21
  clear c21
  replace H:=oB H
  obtain⟨zf,z5,H⟩:=H
  try dsimp only at H
  have A44:=aM z5
  clear z5
  by_cases c45:zf=0
  rotate_left
  ·rw [iN c45] at H
   have yz:=bF c45
   have y0:=nT c45
   replace H:=oi2 H
   obtain⟨rfl,rfl⟩:=H
   obtain⟨yak,yal,yam⟩:=Kd.R_slice zc.out
   subst yam
   go_wp2_with (first|((with_reducible refine gC 30 rfl ?_);refine gL 78 Try.func30 #[.slice yak yh.length yal] ?_;(with_reducible refine(fag.calls k3 _ _ yh zf _ ?s1 ?s2 A44.out).mono ?_);(case s1=>exact sR zc);(case s2=>exact sL zc);rintro e w' ⟨rfl,⟨nd,rfl⟩⟩;refine⟨_,rfl,?_⟩))
   go_ret2
   exact⟨_,pE,pN,qB HB⟩
  rw [ip c45] at H
  have yz:=bT c45
  have y0:=nF c45
  clear c45
  replace H:=oi2 H
  obtain⟨rfl,rfl⟩:=H
  obtain⟨yan,yao,yap⟩:=Kd.R_slice zc.out
  subst yap
  go_wp2_with (first|((with_reducible refine gC 30 rfl ?_);refine gL 78 Try.func30 #[.slice yan yh.length yao] ?_;(with_reducible refine(fag.calls k3 _ _ yh zf _ ?s1 ?s2 A44.out).mono ?_);(case s1=>exact sR zc);(case s2=>exact sL zc);rintro e w' ⟨rfl,⟨nd,rfl⟩⟩;refine⟨_,rfl,?_⟩))
  go_ret2
  exact⟨_,pE,pR zc.out,qB HB⟩
 rw [ip c21] at H
 have yy:=dT c21
 clear c21
 by_cases c22:0≤ya
 rotate_left
 ·rw [iN c22] at H
  cases H
 rw [ip c22] at H
 have c22b0:=dT c22
 clear c22
 by_cases c23:ya < (yb.length:Int)
 rotate_left
 ·rw [iN c23] at H
  cases H
 rw [ip c23] at H
 have c23b0:=dT c23
 clear c23
 by_cases c24:ya < (yc.length:Int)
 rotate_left
 ·rw [iN c24] at H
  cases H
 rw [ip c24] at H
 have c24b0:=dT c24
 clear c24
 by_cases c25:(rd yb ya)=(rd yc ya)
 ·rw [ip c25] at H
  have y1:=bT c25
  have y2:=nF c25
  clear c25
  obtain⟨ji26,hji26⟩:∃ j_:Int,(mx (rd yb ya) (rd yc ya))=j_:=⟨_,rfl⟩
  replace H:(if yh.length < 17592186044416 then(faq.l2 k3 yb yc (yh ++ [ji26]) (yb.length:Int) (wrap64 (ya + 1)))else(none))=some (r1,r2):=by first|(rw [hji26] at H;exact H)|(simp only [hji26] at H ⊢;exact H)
  have hji26_:(if(rd yb ya) < (rd yc ya)then(rd yc ya)else(rd yb ya))=ji26:=hji26
  by_cases c27:yh.length < 17592186044416
  rotate_left
  ·rw [iN c27] at H
   cases H
  rw [ip c27] at H
  have LMc27:=aM c27
  clear c27
  obtain⟨z6,zm⟩:∃ y_:List Int,y_=(yh ++ [ji26]):=⟨_,rfl⟩
  replace H:(faq.l2 k3 yb yc z6 (yb.length:Int) (wrap64 (ya + 1)))=some (r1,r2):=pH zm H
  have Ny704:=aM zm
  clear zm
  have H':=aM H
  clear H
  try go_wp2
  replace za:=aM (Kd.V_drew za.out)
  replace zb:=aM (Kd.V_drew zb.out)
  replace zc:=aM (Kd.R_drew zc.out)
  replace HB:=aM (below_drew1 HB.out)
  obtain⟨yd,⟨⟩,ye,yt,yu⟩:=zI (Kd.V_reads' za.out).2.2 ya
  obtain⟨yg,⟨⟩,yf,yv,yw⟩:=zI (Kd.V_reads' zb.out).2.2 ya
  refine sT 23 [] (fun w'=>w'.cell? (yd.add (ya).toNat)=some (.int .i64 (rd yb ya))∧w'.cell? (yg.add (ya).toNat)=some (.int .i64 (rd yc ya))) faq.tab14 faq.bits14 ⟨ye,yf⟩ (fun hHeld HT_ HW_=>?_)
  generalize wr.drew=w28 at za zb zc HB ye yf hHeld ⊢
  refine pQ 0 41 23 1 HT_ ?_
  refine pQ 1 42 23 3 HT_ ?_
  refine pQ 2 43 23 7 HT_ ?_
  refine pQ 4 45 23 23 HT_ ?_
  refine pQ 5 46 23 55 HT_ ?_
  refine pQ 6 47 23 119 HT_ ?_
  refine pU2 3 44 23 127 HT_ HW_ hHeld ?_
  refine pU2 7 48 23 255 HT_ HW_ hHeld ?_
  refine pQ 8 49 23 511 HT_ ?_
  refine pQ 9 50 23 1023 HT_ ?_
  refine pX 10 51 23 2047 HT_ ?_
  refine pX 11 52 23 4095 HT_ ?_
  refine pX 12 53 23 8191 HT_ ?_
  refine pX 13 54 23 16383 HT_ ?_
  refine pX 14 55 23 32767 HT_ ?_
  refine pQ 15 56 23 65535 HT_ ?_
  refine pQ 16 57 23 131071 HT_ ?_
  refine pX 17 58 23 262143 HT_ ?_
  refine pX 18 59 23 524287 HT_ ?_
  refine pX 19 60 23 1048575 HT_ ?_
  refine pX 20 61 23 2097151 HT_ ?_
  refine pX 21 62 23 4194303 HT_ ?_
  refine pQ 22 63 23 8388607 HT_ ?_
  refine dN HT_ ?_
  try go_wp2
  replace za:=aM (Kd.V_drew za.out)
  replace zb:=aM (Kd.V_drew zb.out)
  replace zc:=aM (Kd.R_drew zc.out)
  replace HB:=aM (below_drew1 HB.out)
  obtain⟨y3,yaq,yl,p702,q702⟩:=zI (Kd.V_reads' za.out).2.2 ya
  obtain rfl:yd=y3:=(by injection yaq)
  obtain⟨y4,yar,ym,p703,q703⟩:=zI (Kd.V_reads' zb.out).2.2 ya
  obtain rfl:yg=y4:=(by injection yar)
  refine sT 13 [10,11] (fun w'=>w'.cell? (yd.add (ya).toNat)=some (.int .i64 (rd yb ya))∧w'.cell? (yg.add (ya).toNat)=some (.int .i64 (rd yc ya))) faq.tab16 faq.bits16 ⟨yl,ym⟩ (fun hHeld HT_ HW_=>?_)
  generalize w28.drew=w29 at za zb zc HB yl ym hHeld ⊢
  refine pQ 0 64 13 1 HT_ ?_
  refine pQ 1 65 13 3 HT_ ?_
  refine pQ 2 66 13 7 HT_ ?_
  refine pQ 3 67 13 15 HT_ ?_
  refine pQ 5 69 13 47 HT_ ?_
  refine pQ 6 70 13 111 HT_ ?_
  refine pQ 7 71 13 239 HT_ ?_
  refine pU2 4 68 13 255 HT_ HW_ hHeld ?_
  refine pU2 8 72 13 511 HT_ HW_ hHeld ?_
  refine pQ 9 73 13 1023 HT_ ?_
  refine last_ (i:=10) (N:=some 74) (bm 13 2047) rfl rfl (one_of HT_.out (by kernel_rfl)) (by decide) (fun K hK=>?_)
  refine value_ (w1:=?_) (v:=?_) (by rfl) rfl ?_ ?_
  rotate_left 2
  ·go_simp
   constructor
   ·rfl
   ·rfl
  refine hK.out _ _ ?_
  clear hK K
  refine norm_ (a':=?_) ?_ ?_
  rotate_left
  ·show Act.put _ (some 74) _=_
   simp only [Act.put,sP,i64_w,i32_w]
   rfl
  refine last_ (i:=11) (N:=some 75) (bm 13 4095) rfl rfl (one_of HT_.out (by kernel_rfl)) (by decide) (fun K hK=>?_)
  refine Kd.R_append_step (Kd.int .i64) (w0:=w) w.heap.size (by rfl) (.tmp 64) (.tmp 74) 22 3 (.int .i64 0) 8 rfl Try.underlying22 info3 rfl (by decide) (by omega) u8 yh ji26 [.int .i64 ji26] (fun k_=>(w.heap.size≤k_)) (fun _=>False) rfl rfl ?aP (fun _ hk=>hk.elim) ?aF ?aO ?aB ?aS ?aL ?_
  (case aP=>exact rfl)
  (case aB=>exact(qB HB))
  (case aF=>exact(fun k_ hk=>(Nat.le_trans (below_size (qB HB)) hk)))
  (case aO=>exact(pR zc.out))
  (case aS=>exact(below_size (qB HB)))
  (case aL=>have:=LMc27.out;omega)
  intro v705 w30 ho hb hg hat
  rw [← Ny704.out] at ho
  replace za:=aM (Kd.V_afterv (ok:=(fun k_=>((P0_ k_∨P1_ k_)∨w.heap.size≤k_))) (pV za.out) hg hat)
  replace zb:=aM (Kd.V_afterv (ok:=(fun k_=>((P0_ k_∨P1_ k_)∨w.heap.size≤k_))) (pV zb.out) hg hat)
  replace HB:=aM (hb)
  have HO706:=aM (ho)
  clear zc
  clear ho hb hg hat
  refine hK.out _ _ ?_
  clear hK K
  refine norm_ (a':=?_) ?_ ?_
  rotate_left
  ·show Act.put _ (some 75) _=_
   simp only [Act.put,sP,i64_w,i32_w]
   rfl
  refine pQ 12 8 13 8191 HT_ ?_
  refine dN HT_ ?_
  try go_wp2
  go_roundg k3
  case measure=>have:=HK1.out;have:=HK2.out;have:=HK3.out;omega
  case rel=>exact⟨(z6),(wrap64 (ya + 1)),(pF),H',⟨by have:=HK1.out;have:=HK2.out;have:=HK3.out;omega⟩,⟨pV za.out⟩,⟨pV zb.out⟩,⟨pR HO706.out⟩,⟨qB HB⟩⟩
 rw [iN c25] at H
 have y1:=bF c25
 have y2:=nT c25
 by_cases c31:(rd yb ya)=1
 ·rw [ip c31] at H
  have y5:=bT c31
  have y6:=nF c31
  clear c31
  obtain⟨ji32,hji32⟩:∃ j_:Int,(mx (rd yb ya) (rd yc ya))=j_:=⟨_,rfl⟩
  replace H:(if yh.length < 17592186044416 then(faq.l2 k3 yb yc (yh ++ [ji32]) (yb.length:Int) (wrap64 (ya + 1)))else(none))=some (r1,r2):=by first|(rw [hji32] at H;exact H)|(simp only [hji32] at H ⊢;exact H)
  have hji32_:(if(rd yb ya) < (rd yc ya)then(rd yc ya)else(rd yb ya))=ji32:=hji32
  by_cases c33:yh.length < 17592186044416
  rotate_left
  ·rw [iN c33] at H
   cases H
  rw [ip c33] at H
  have LMc33:=aM c33
  clear c33
  obtain⟨z7,zn⟩:∃ y_:List Int,y_=(yh ++ [ji32]):=⟨_,rfl⟩
  replace H:(faq.l2 k3 yb yc z7 (yb.length:Int) (wrap64 (ya + 1)))=some (r1,r2):=pH zn H
  have Ny710:=aM zn
  clear zn
  have H':=aM H
  clear H
  try go_wp2
  replace za:=aM (Kd.V_drew za.out)
  replace zb:=aM (Kd.V_drew zb.out)
  replace zc:=aM (Kd.R_drew zc.out)
  replace HB:=aM (below_drew1 HB.out)
  obtain⟨yd,⟨⟩,ye,yt,yu⟩:=zI (Kd.V_reads' za.out).2.2 ya
  obtain⟨yg,⟨⟩,yf,yv,yw⟩:=zI (Kd.V_reads' zb.out).2.2 ya
  obtain⟨yk,yr,yi,y7,y8⟩:=zI (Kd.V_reads' za.out).2.2 ya
  obtain rfl:yd=yk:=(by injection yr)
  refine sT 23 [] (fun w'=>w'.cell? (yd.add (ya).toNat)=some (.int .i64 (rd yb ya))∧w'.cell? (yg.add (ya).toNat)=some (.int .i64 (rd yc ya))∧w'.cell? (yd.add (ya).toNat)=some (.int .i64 (rd yb ya))) faq.tab14 faq.bits14 ⟨ye,yf,yi⟩ (fun hHeld HT_ HW_=>?_)
  generalize wr.drew=w34 at za zb zc HB ye yf yi hHeld ⊢
  refine pQ 0 41 23 1 HT_ ?_
  refine pQ 1 42 23 3 HT_ ?_
  refine pQ 2 43 23 7 HT_ ?_
  refine pQ 4 45 23 23 HT_ ?_
  refine pQ 5 46 23 55 HT_ ?_
  refine pQ 6 47 23 119 HT_ ?_
  refine pU3 3 44 23 127 HT_ HW_ hHeld ?_
  refine pU3 7 48 23 255 HT_ HW_ hHeld ?_
  refine pQ 8 49 23 511 HT_ ?_
  refine pQ 9 50 23 1023 HT_ ?_
  refine pQ 10 51 23 2047 HT_ ?_
  refine pQ 11 52 23 4095 HT_ ?_
  refine pQ 12 53 23 8191 HT_ ?_
  refine pU3 13 54 23 16383 HT_ HW_ hHeld ?_
  refine pQ 14 55 23 32767 HT_ ?_
  refine pQ 15 56 23 65535 HT_ ?_
  refine pQ 16 57 23 131071 HT_ ?_
  refine pX 17 58 23 262143 HT_ ?_
  refine pX 18 59 23 524287 HT_ ?_
  refine pX 19 60 23 1048575 HT_ ?_
  refine pX 20 61 23 2097151 HT_ ?_
  refine pX 21 62 23 4194303 HT_ ?_
  refine pQ 22 63 23 8388607 HT_ ?_
  refine dN HT_ ?_
  try go_wp2
  replace za:=aM (Kd.V_drew za.out)
  replace zb:=aM (Kd.V_drew zb.out)
  replace zc:=aM (Kd.R_drew zc.out)
  replace HB:=aM (below_drew1 HB.out)
  obtain⟨y9,yas,yn,p708,q708⟩:=zI (Kd.V_reads' za.out).2.2 ya
  obtain rfl:yd=y9:=(by injection yas)
  obtain⟨yaa,yat,yo,p709,q709⟩:=zI (Kd.V_reads' zb.out).2.2 ya
  obtain rfl:yg=yaa:=(by injection yat)
  refine sT 13 [10,11] (fun w'=>w'.cell? (yd.add (ya).toNat)=some (.int .i64 (rd yb ya))∧w'.cell? (yg.add (ya).toNat)=some (.int .i64 (rd yc ya))) faq.tab16 faq.bits16 ⟨yn,yo⟩ (fun hHeld HT_ HW_=>?_)
  generalize w34.drew=w35 at za zb zc HB yn yo hHeld ⊢
  refine pQ 0 64 13 1 HT_ ?_
  refine pQ 1 65 13 3 HT_ ?_
  refine pQ 2 66 13 7 HT_ ?_
  refine pQ 3 67 13 15 HT_ ?_
  refine pQ 5 69 13 47 HT_ ?_
  refine pQ 6 70 13 111 HT_ ?_
  refine pQ 7 71 13 239 HT_ ?_
  refine pU2 4 68 13 255 HT_ HW_ hHeld ?_
  refine pU2 8 72 13 511 HT_ HW_ hHeld ?_
  refine pQ 9 73 13 1023 HT_ ?_
  refine last_ (i:=10) (N:=some 74) (bm 13 2047) rfl rfl (one_of HT_.out (by kernel_rfl)) (by decide) (fun K hK=>?_)
  refine value_ (w1:=?_) (v:=?_) (by rfl) rfl ?_ ?_
  rotate_left 2
  ·go_simp
   constructor
   ·rfl
   ·rfl
  refine hK.out _ _ ?_
  clear hK K
  refine norm_ (a':=?_) ?_ ?_
  rotate_left
  ·show Act.put _ (some 74) _=_
   simp only [Act.put,sP,i64_w,i32_w]
   rfl
  refine last_ (i:=11) (N:=some 75) (bm 13 4095) rfl rfl (one_of HT_.out (by kernel_rfl)) (by decide) (fun K hK=>?_)
  refine Kd.R_append_step (Kd.int .i64) (w0:=w) w.heap.size (by rfl) (.tmp 64) (.tmp 74) 22 3 (.int .i64 0) 8 rfl Try.underlying22 info3 rfl (by decide) (by omega) u8 yh ji32 [.int .i64 ji32] (fun k_=>(w.heap.size≤k_)) (fun _=>False) rfl rfl ?aP (fun _ hk=>hk.elim) ?aF ?aO ?aB ?aS ?aL ?_
  (case aP=>exact rfl)
  (case aB=>exact(qB HB))
  (case aF=>exact(fun k_ hk=>(Nat.le_trans (below_size (qB HB)) hk)))
  (case aO=>exact(pR zc.out))
  (case aS=>exact(below_size (qB HB)))
  (case aL=>have:=LMc33.out;omega)
  intro v711 w36 ho hb hg hat
  rw [← Ny710.out] at ho
  replace za:=aM (Kd.V_afterv (ok:=(fun k_=>((P0_ k_∨P1_ k_)∨w.heap.size≤k_))) (pV za.out) hg hat)
  replace zb:=aM (Kd.V_afterv (ok:=(fun k_=>((P0_ k_∨P1_ k_)∨w.heap.size≤k_))) (pV zb.out) hg hat)
  replace HB:=aM (hb)
  have HO712:=aM (ho)
  clear zc
  clear ho hb hg hat
  refine hK.out _ _ ?_
  clear hK K
  refine norm_ (a':=?_) ?_ ?_
  rotate_left
  ·show Act.put _ (some 75) _=_
   simp only [Act.put,sP,i64_w,i32_w]
   rfl
  refine pQ 12 8 13 8191 HT_ ?_
  refine dN HT_ ?_
  try go_wp2
  go_roundg k3
  case measure=>have:=HK1.out;have:=HK2.out;have:=HK3.out;omega
  case rel=>exact⟨(z7),(wrap64 (ya + 1)),(pF),H',⟨by have:=HK1.out;have:=HK2.out;have:=HK3.out;omega⟩,⟨pV za.out⟩,⟨pV zb.out⟩,⟨pR HO712.out⟩,⟨qB HB⟩⟩
 rw [iN c31] at H
 have y5:=bF c31
 have y6:=nT c31
 by_cases c37:(rd yc ya)=1
 rotate_left
 ·rw [iN c37] at H
  have yab:=bF c37
  have yac:=nT c37
  replace H:=oi2 H
  obtain⟨rfl,rfl⟩:=H
  try go_wp2
  replace za:=aM (Kd.V_drew za.out)
  replace zb:=aM (Kd.V_drew zb.out)
  replace zc:=aM (Kd.R_drew zc.out)
  replace HB:=aM (below_drew1 HB.out)
  obtain⟨yd,⟨⟩,ye,yt,yu⟩:=zI (Kd.V_reads' za.out).2.2 ya
  obtain⟨yg,⟨⟩,yf,yv,yw⟩:=zI (Kd.V_reads' zb.out).2.2 ya
  obtain⟨yk,yr,yi,y7,y8⟩:=zI (Kd.V_reads' za.out).2.2 ya
  obtain rfl:yd=yk:=(by injection yr)
  obtain⟨ys,yx,yj,yau,yav⟩:=zI (Kd.V_reads' zb.out).2.2 ya
  obtain rfl:yg=ys:=(by injection yx)
  refine sT 23 [] (fun w'=>w'.cell? (yd.add (ya).toNat)=some (.int .i64 (rd yb ya))∧w'.cell? (yg.add (ya).toNat)=some (.int .i64 (rd yc ya))∧w'.cell? (yd.add (ya).toNat)=some (.int .i64 (rd yb ya))∧w'.cell? (yg.add (ya).toNat)=some (.int .i64 (rd yc ya))) faq.tab14 faq.bits14 ⟨ye,yf,yi,yj⟩ (fun hHeld HT_ HW_=>?_)
  generalize wr.drew=w43 at za zb zc HB ye yf yi yj hHeld ⊢
  refine pQ 0 41 23 1 HT_ ?_
  refine pQ 1 42 23 3 HT_ ?_
  refine pQ 2 43 23 7 HT_ ?_
  refine pQ 4 45 23 23 HT_ ?_
  refine pQ 5 46 23 55 HT_ ?_
  refine pQ 6 47 23 119 HT_ ?_
  refine pU4 3 44 23 127 HT_ HW_ hHeld ?_
  refine pU4 7 48 23 255 HT_ HW_ hHeld ?_
  refine pQ 8 49 23 511 HT_ ?_
  refine pQ 9 50 23 1023 HT_ ?_
  refine pQ 10 51 23 2047 HT_ ?_
  refine pQ 11 52 23 4095 HT_ ?_
  refine pQ 12 53 23 8191 HT_ ?_
  refine pU4 13 54 23 16383 HT_ HW_ hHeld ?_
  refine pQ 14 55 23 32767 HT_ ?_
  refine pQ 15 56 23 65535 HT_ ?_
  refine pQ 16 57 23 131071 HT_ ?_
  refine pQ 17 58 23 262143 HT_ ?_
  refine pQ 18 59 23 524287 HT_ ?_
  refine pQ 19 60 23 1048575 HT_ ?_
  refine pU4 20 61 23 2097151 HT_ HW_ hHeld ?_
  refine pQ 21 62 23 4194303 HT_ ?_
  refine pQ 22 63 23 8388607 HT_ ?_
  refine dN HT_ ?_
  try go_wp2
  go_ret2
  exact⟨_,pE,pN,qB HB⟩
 rw [ip c37] at H
 have yab:=bT c37
 have yac:=nF c37
 clear c37
 obtain⟨ji38,hji38⟩:∃ j_:Int,(mx (rd yb ya) (rd yc ya))=j_:=⟨_,rfl⟩
 replace H:(if yh.length < 17592186044416 then(faq.l2 k3 yb yc (yh ++ [ji38]) (yb.length:Int) (wrap64 (ya + 1)))else(none))=some (r1,r2):=by first|(rw [hji38] at H;exact H)|(simp only [hji38] at H ⊢;exact H)
 have hji38_:(if(rd yb ya) < (rd yc ya)then(rd yc ya)else(rd yb ya))=ji38:=hji38
 by_cases c39:yh.length < 17592186044416
 rotate_left
 ·rw [iN c39] at H
  cases H
 rw [ip c39] at H
 have LMc39:=aM c39
 clear c39
 obtain⟨z8,zo⟩:∃ y_:List Int,y_=(yh ++ [ji38]):=⟨_,rfl⟩
 replace H:(faq.l2 k3 yb yc z8 (yb.length:Int) (wrap64 (ya + 1)))=some (r1,r2):=pH zo H
 have Ny716:=aM zo
 clear zo
 have H':=aM H
 clear H
 try go_wp2
 replace za:=aM (Kd.V_drew za.out)
 replace zb:=aM (Kd.V_drew zb.out)
 replace zc:=aM (Kd.R_drew zc.out)
 replace HB:=aM (below_drew1 HB.out)
 obtain⟨yd,⟨⟩,ye,yt,yu⟩:=zI (Kd.V_reads' za.out).2.2 ya
 obtain⟨yg,⟨⟩,yf,yv,yw⟩:=zI (Kd.V_reads' zb.out).2.2 ya
 obtain⟨yk,yr,yi,y7,y8⟩:=zI (Kd.V_reads' za.out).2.2 ya
 obtain rfl:yd=yk:=(by injection yr)
 obtain⟨ys,yx,yj,yau,yav⟩:=zI (Kd.V_reads' zb.out).2.2 ya
 obtain rfl:yg=ys:=(by injection yx)
 refine sT 23 [] (fun w'=>w'.cell? (yd.add (ya).toNat)=some (.int .i64 (rd yb ya))∧w'.cell? (yg.add (ya).toNat)=some (.int .i64 (rd yc ya))∧w'.cell? (yd.add (ya).toNat)=some (.int .i64 (rd yb ya))∧w'.cell? (yg.add (ya).toNat)=some (.int .i64 (rd yc ya))) faq.tab14 faq.bits14 ⟨ye,yf,yi,yj⟩ (fun hHeld HT_ HW_=>?_)
 generalize wr.drew=w40 at za zb zc HB ye yf yi yj hHeld ⊢
 refine pQ 0 41 23 1 HT_ ?_
 refine pQ 1 42 23 3 HT_ ?_
 refine pQ 2 43 23 7 HT_ ?_
 refine pQ 4 45 23 23 HT_ ?_
 refine pQ 5 46 23 55 HT_ ?_
 refine pQ 6 47 23 119 HT_ ?_
 refine pU4 3 44 23 127 HT_ HW_ hHeld ?_
 refine pU4 7 48 23 255 HT_ HW_ hHeld ?_
 refine pQ 8 49 23 511 HT_ ?_
 refine pQ 9 50 23 1023 HT_ ?_
 refine pQ 10 51 23 2047 HT_ ?_
 refine pQ 11 52 23 4095 HT_ ?_
 refine pQ 12 53 23 8191 HT_ ?_
 refine pU4 13 54 23 16383 HT_ HW_ hHeld ?_
 refine pQ 14 55 23 32767 HT_ ?_
 refine pQ 15 56 23 65535 HT_ ?_
 refine pQ 16 57 23 131071 HT_ ?_
 refine pQ 17 58 23 262143 HT_ ?_
 refine pQ 18 59 23 524287 HT_ ?_
 refine pQ 19 60 23 1048575 HT_ ?_
 refine pU4 20 61 23 2097151 HT_ HW_ hHeld ?_
 refine pQ 21 62 23 4194303 HT_ ?_
 refine pQ 22 63 23 8388607 HT_ ?_
 refine dN HT_ ?_
 try go_wp2
 replace za:=aM (Kd.V_drew za.out)
 replace zb:=aM (Kd.V_drew zb.out)
 replace zc:=aM (Kd.R_drew zc.out)
 replace HB:=aM (below_drew1 HB.out)
 obtain⟨yad,yaw,yp,p714,q714⟩:=zI (Kd.V_reads' za.out).2.2 ya
 obtain rfl:yd=yad:=(by injection yaw)
 obtain⟨yae,yax,yq,p715,q715⟩:=zI (Kd.V_reads' zb.out).2.2 ya
 obtain rfl:yg=yae:=(by injection yax)
 refine sT 13 [10,11] (fun w'=>w'.cell? (yd.add (ya).toNat)=some (.int .i64 (rd yb ya))∧w'.cell? (yg.add (ya).toNat)=some (.int .i64 (rd yc ya))) faq.tab16 faq.bits16 ⟨yp,yq⟩ (fun hHeld HT_ HW_=>?_)
 generalize w40.drew=w41 at za zb zc HB yp yq hHeld ⊢
 refine pQ 0 64 13 1 HT_ ?_
 refine pQ 1 65 13 3 HT_ ?_
 refine pQ 2 66 13 7 HT_ ?_
 refine pQ 3 67 13 15 HT_ ?_
 refine pQ 5 69 13 47 HT_ ?_
 refine pQ 6 70 13 111 HT_ ?_
 refine pQ 7 71 13 239 HT_ ?_
 refine pU2 4 68 13 255 HT_ HW_ hHeld ?_
 refine pU2 8 72 13 511 HT_ HW_ hHeld ?_
 refine pQ 9 73 13 1023 HT_ ?_
 refine last_ (i:=10) (N:=some 74) (bm 13 2047) rfl rfl (one_of HT_.out (by kernel_rfl)) (by decide) (fun K hK=>?_)
 refine value_ (w1:=?_) (v:=?_) (by rfl) rfl ?_ ?_
 rotate_left 2
 ·go_simp
  constructor
  ·rfl
  ·rfl
 refine hK.out _ _ ?_
 clear hK K
 refine norm_ (a':=?_) ?_ ?_
 rotate_left
 ·show Act.put _ (some 74) _=_
  simp only [Act.put,sP,i64_w,i32_w]
  rfl
 refine last_ (i:=11) (N:=some 75) (bm 13 4095) rfl rfl (one_of HT_.out (by kernel_rfl)) (by decide) (fun K hK=>?_)
 refine Kd.R_append_step (Kd.int .i64) (w0:=w) w.heap.size (by rfl) (.tmp 64) (.tmp 74) 22 3 (.int .i64 0) 8 rfl Try.underlying22 info3 rfl (by decide) (by omega) u8 yh ji38 [.int .i64 ji38] (fun k_=>(w.heap.size≤k_)) (fun _=>False) rfl rfl ?aP (fun _ hk=>hk.elim) ?aF ?aO ?aB ?aS ?aL ?_
 (case aP=>exact rfl)
 (case aB=>exact(qB HB))
 (case aF=>exact(fun k_ hk=>(Nat.le_trans (below_size (qB HB)) hk)))
 (case aO=>exact(pR zc.out))
 (case aS=>exact(below_size (qB HB)))
 (case aL=>have:=LMc39.out;omega)
 intro v717 w42 ho hb hg hat
 rw [← Ny716.out] at ho
 replace za:=aM (Kd.V_afterv (ok:=(fun k_=>((P0_ k_∨P1_ k_)∨w.heap.size≤k_))) (pV za.out) hg hat)
 replace zb:=aM (Kd.V_afterv (ok:=(fun k_=>((P0_ k_∨P1_ k_)∨w.heap.size≤k_))) (pV zb.out) hg hat)
 replace HB:=aM (hb)
 have HO718:=aM (ho)
 clear zc
 clear ho hb hg hat
 refine hK.out _ _ ?_
 clear hK K
 refine norm_ (a':=?_) ?_ ?_
 rotate_left
 ·show Act.put _ (some 75) _=_
  simp only [Act.put,sP,i64_w,i32_w]
  rfl
 refine pQ 12 8 13 8191 HT_ ?_
 refine dN HT_ ?_
 try go_wp2
 go_roundg k3
 case measure=>have:=HK1.out;have:=HK2.out;have:=HK3.out;omega
 case rel=>exact⟨(z8),(wrap64 (ya + 1)),(pF),H',⟨by have:=HK1.out;have:=HK2.out;have:=HK3.out;omega⟩,⟨pV za.out⟩,⟨pV zb.out⟩,⟨pR HO718.out⟩,⟨qB HB⟩⟩
def fao.f (k:Nat) (l0:List Int) (l1:List Int):Option (Bool):=(faq.f k l0 l1).bind fun bt720=>(if bt720.2=0 then((fak.f k bt720.1 l1).bind fun zc=>(some zc))else(some false))
theorem fao.calls (k:Nat)(A0:Option Addr)(c0:Nat)(l0:List Int)(A1:Option Addr)(c1:Nat)(l1:List Int)(r:Bool)(w:World)(hr0:Kd.C (Kd.int .i64) w A0 l0.length l0)(hc0:l0.length≤c0)(hr1:Kd.C (Kd.int .i64) w A1 l1.length l1)(hc1:l1.length≤c1)(h:fao.f k l0 l1=some r) :
  Calls Try.prog 95 #[.slice A0 l0.length c0,.slice A1 l1.length c1] w fun e w'=>e=.returned (.bool r)∧Below w.heap.size w w':=by
 have HR0:=aM hr0
 have HC0:=aM hc0
 clear hr0 hc0
 have HR1:=aM hr1
 have HC1:=aM hc1
 clear hr1 hc1
 have HB:=aM (Below.refl w.heap.size w)
 have H:((faq.f k l0 l1).bind fun bt720=>(if bt720.2=0 then((fak.f k bt720.1 l1).bind fun zc=>(some zc))else(some false)))=some r:=h
 clear h
 replace H:=oB H
 obtain⟨⟨zd,za⟩,A30,H⟩:=H
 try dsimp only at H
 have A3:=aM A30
 clear A30
 by_cases c4:za=0
 rotate_left
 ·rw [iN c4] at H
  have ya:=bF c4
  have yb:=nT c4
  obtain rfl:=Option.some.inj H
  go_enter Try.func95,Try.ntmps95
  go_wp2_with (first|((with_reducible refine gC 79 rfl ?_);refine gL 10 Try.func79 #[.slice A0 l0.length c0,.slice A1 l1.length c1] ?_;(with_reducible refine(faq.calls k (fun k_=>k_ < w.heap.size) _ _ l0 (fun k_=>k_ < w.heap.size) _ _ l1 zd za _ ?s1 ?s2 A3.out).mono ?_);(case s1=>exact Kd.V_mk HC0.out (Kd.F_below (Kd.C_F (Kd.heap_int .i64) HR0.out) (qB HB)));(case s2=>exact Kd.V_mk HC1.out (Kd.F_below (Kd.C_F (Kd.heap_int .i64) HR1.out) (qB HB)));rintro e w8 ⟨v721,rfl,ho0,hb⟩;refine⟨_,rfl,?_⟩;have zb:=aM (Kd.R_lower (Kd.R_mono (ok':=fun k_=>True) ho0 (fun _ hk_=>trivial)) (below_size (qB HB)));replace HB:=bS (qB HB) hb;(try clear hb);(try clear hk);(try clear hi);(try clear ho0)))
  go_ret
  exact⟨pE,qB HB⟩
 rw [ip c4] at H
 have ya:=bT c4
 have yb:=nF c4
 clear c4
 replace H:=oB H
 obtain⟨zc,A50,H⟩:=H
 try dsimp only at H
 have A5:=aM A50
 clear A50
 obtain rfl:=Option.some.inj H
 go_enter Try.func95,Try.ntmps95
 go_wp2_with (first|((with_reducible refine gC 79 rfl ?_);refine gL 10 Try.func79 #[.slice A0 l0.length c0,.slice A1 l1.length c1] ?_;(with_reducible refine(faq.calls k (fun k_=>k_ < w.heap.size) _ _ l0 (fun k_=>k_ < w.heap.size) _ _ l1 zd za _ ?s1 ?s2 A3.out).mono ?_);(case s1=>exact Kd.V_mk HC0.out (Kd.F_below (Kd.C_F (Kd.heap_int .i64) HR0.out) (qB HB)));(case s2=>exact Kd.V_mk HC1.out (Kd.F_below (Kd.C_F (Kd.heap_int .i64) HR1.out) (qB HB)));rintro e w6 ⟨v721,rfl,ho0,hb⟩;refine⟨_,rfl,?_⟩;have zb:=aM (Kd.R_lower (Kd.R_mono (ok':=fun k_=>True) ho0 (fun _ hk_=>trivial)) (below_size (qB HB)));replace HB:=bS (qB HB) hb;(try clear hb);(try clear hk);(try clear hi);(try clear ho0);obtain⟨Ao7,co7,eo7⟩:=Kd.R_slice zb.out;subst eo7)|(go_at_call 82;(with_reducible refine(fak.calls k _ _ zd _ _ l1 zc _ ?s1 ?s2 ?s3 HC1.out A5.out).mono ?_);(case s1=>exact sR zb);(case s2=>exact sL zb);(case s3=>exact sC HR1 HB);rintro e w' ⟨rfl,⟨nd,rfl⟩⟩))
 go_ret
 exact⟨pE,qB HB⟩
def fas.l0:Nat→List Int→List Int→Int→Int→Int→Option (Int)
 | 0,_,_,_,_,_=>none
 | k + 1,x0,x1,x5,x8,x9=>if x9 < x8 then(if 0≤x9 then(if x9 < (x0.length:Int)then(if x9 < (x1.length:Int)then(fas.l0 k x0 x1 (wrap64 ((wrap64 (x5 * (rd x0 x9))) + (rd x1 x9))) x8 (wrap64 (x9 + 1)))else(none))else(none))else(none))else(some x5)
def fas.f (k:Nat) (l0:List Int) (l1:List Int):Option (Int):=fas.l0 k l0 l1 0 (l0.length:Int) 0
theorem fas.calls (k:Nat)(A0:Option Addr)(c0:Nat)(l0:List Int)(A1:Option Addr)(c1:Nat)(l1:List Int) (r:Int)(w:World)(hr0:Kd.C (Kd.int .i64) w A0 l0.length l0)(hc0:l0.length≤c0)(hr1:Kd.C (Kd.int .i64) w A1 l1.length l1)(hc1:l1.length≤c1)(h:fas.f k l0 l1=some r) :
  Calls Try.prog 99 #[.slice A0 l0.length c0,.slice A1 l1.length c1] w fun e w'=>e=.returned (.int .i64 r)∧Drawn0 w w':=by
 have HR0:=aM hr0
 have HC0:=aM hc0
 clear hr0 hc0
 have HR1:=aM hr1
 have HC1:=aM hc1
 clear hr1 hc1
 have H:(fas.l0 k l0 l1 0 (l0.length:Int) 0)=some r:=h
 clear h
 have H':=aM H
 clear H
 go_enter Try.func99,Try.ntmps99
 go_wp2
 repeat(go_quiet (fail);try go_wp2)
 go_loopg [5,9] k (fun kq v5 v9 w'=>∃ (yb:Int) (ya:Int),v5=.int .i64 yb∧v9=.int .i64 ya∧Aside0 (fas.l0 kq l0 l1 yb (l0.length:Int) ya=some r)∧Aside0 (kq≤k)∧Drawn0 w w')
 case atStart=>exact⟨(0),(0),(pF),(pF),H',⟨Nat.le_refl _⟩,by repeat(first|exact Drawn0.refl _|apply Drawn0.step)⟩
 clear H'
 try clear c1
 obtain⟨yb,ya,rfl,rfl,HA,HK1,⟨m1,rfl⟩⟩:=hrel
 cases gk with
 | zero=>exact absurd HA.out (by simp [fas.l0])
 | succ k1=>?_
 have H:=HA.out
 clear HA
 simp only [fas.l0] at H
 by_cases c3:ya < (l0.length:Int)
 rotate_left
 ·rw [iN c3] at H
  have yc:=dF c3
  clear c3
  obtain rfl:=Option.some.inj H
  go_wp2
  repeat(go_quiet (fail);try go_wp2)
  go_ret
  exact⟨pF,by repeat(first|exact Drawn0.refl _|apply Drawn0.step)⟩
 rw [ip c3] at H
 have yc:=dT c3
 clear c3
 by_cases c4:0≤ya
 rotate_left
 ·rw [iN c4] at H
  cases H
 rw [ip c4] at H
 have c4b0:=dT c4
 clear c4
 by_cases c5:ya < (l0.length:Int)
 rotate_left
 ·rw [iN c5] at H
  cases H
 rw [ip c5] at H
 have c5b0:=dT c5
 clear c5
 by_cases c6:ya < (l1.length:Int)
 rotate_left
 ·rw [iN c6] at H
  cases H
 rw [ip c6] at H
 have c6b0:=dT c6
 clear c6
 have H':=aM H
 clear H
 obtain⟨ad725,⟨⟩,hx725_0,p725,q725⟩:=zI HR0.out ya
 obtain⟨ad726,⟨⟩,hx726_0,p726,q726⟩:=zI HR1.out ya
 go_wp2
 repeat(go_quiet (fail);try go_wp2)
 go_roundg k1
 case measure=>have:=HK1.out;omega
 case rel=>exact⟨(wrap64 ((wrap64 (yb * (rd l0 ya))) + (rd l1 ya))),(wrap64 (ya + 1)),(pF),(pF),H',⟨pO1 HK1⟩,by repeat(first|exact Drawn0.refl _|apply Drawn0.step)⟩
mutual
def fap.l0:Nat→List Int→List Int→List (List Int)→List Int→Int→Int→Option (List Int)
 | 0,_,_,_,_,_,_=>none
 | k + 1,x0,x1,x5,x6,x17,x18=>if x18 < x17 then(fap.l1 k x0 x1 x5 x6 x18 ([]:List Int) x17 x18 (x0.length:Int) 0)else(some x6)
def fap.l1:Nat→List Int→List Int→List (List Int)→List Int→Int→List Int→Int→Int→Int→Int→Option (List Int)
 | 0,_,_,_,_,_,_,_,_,_,_=>none
 | k + 1,x0,x1,x5,x6,x7,x8,x17,x18,x22,x23=>if x23 < x22 then(if 0≤x23 then(if x23 < (x0.length:Int)then(if(rd x0 x23)=1 then(if x8.length < 17592186044416 then(fap.l1 k x0 x1 x5 x6 x7 (x8 ++ [0]) x17 x18 x22 (wrap64 (x23 + 1)))else(none))else(if 0≤x7 then(if x7 < (x5.length:Int)then(if 0≤(wrap64 ((wrap64 ((x1.length:Int) - (x0.length:Int))) + x23))then(if(wrap64 ((wrap64 ((x1.length:Int) - (x0.length:Int))) + x23)) < ((rd_L1 x5 x7).length:Int)then(if x8.length < 17592186044416 then(fap.l1 k x0 x1 x5 x6 x7 (x8 ++ [rd (rd_L1 x5 x7) (wrap64 ((wrap64 ((x1.length:Int) - (x0.length:Int))) + x23))]) x17 x18 x22 (wrap64 (x23 + 1)))else(none))else(none))else(none))else(none))else(none)))else(none))else(none))else((fas.f k x0 x8).bind fun zf=>(if x6.length < 17592186044416 then(fap.l0 k x0 x1 x5 (x6 ++ [zf]) x17 (wrap64 (x18 + 1)))else(none)))
end
def fap.f (k:Nat) (l0:List Int) (l1:List Int):Option (List Int):=(fao.f k l0 l1).bind fun zg=>(if zg=true then((fam.f k l1).bind fun za=>(fap.l0 k l0 l1 za ([]:List Int) (za.length:Int) 0))else(some ([]:List Int)))
theorem fap.calls (k:Nat)(A0:Option Addr)(c0:Nat)(l0:List Int)(A1:Option Addr)(c1:Nat)(l1:List Int)(r:List Int)(w:World)(hr0:Kd.C (Kd.int .i64) w A0 l0.length l0)(hc0:l0.length≤c0)(hr1:Kd.C (Kd.int .i64) w A1 l1.length l1)(hc1:l1.length≤c1)(h:fap.f k l0 l1=some r) :
  Calls Try.prog 96 #[.slice A0 l0.length c0,.slice A1 l1.length c1] w fun e w'=>∃ v0_:Value,e=.returned (v0_)∧Kd.R (Kd.int .i64) 3 w' w.heap.size (fun _=>True) v0_ r∧Below w.heap.size w w':=by
 have HR0:=aM hr0
 have HC0:=aM hc0
 clear hr0 hc0
 have HR1:=aM hr1
 have HC1:=aM hc1
 clear hr1 hc1
 have HB:=aM (Below.refl w.heap.size w)
 have H:((fao.f k l0 l1).bind fun zg=>(if zg=true then((fam.f k l1).bind fun za=>(fap.l0 k l0 l1 za ([]:List Int) (za.length:Int) 0))else(some ([]:List Int))))=some r:=h
 clear h
 replace H:=oB H
 obtain⟨zg,A30,H⟩:=H
 try dsimp only at H
 have A3:=aM A30
 clear A30
 by_cases c4:zg=true
 rotate_left
 ·replace c4:=Bool.eq_false_iff.mpr c4
  subst c4
  rw [iN (show ¬ (false=true) by decide)] at H
  obtain rfl:=Option.some.inj H
  go_enter Try.func96,Try.ntmps96
  go_wp2_with (first|((with_reducible refine gC 95 rfl ?_);refine gL 12 Try.func95 #[.slice A0 l0.length c0,.slice A1 l1.length c1] ?_;(with_reducible refine(fao.calls k _ _ l0 _ _ l1 false _ ?s1 HC0.out ?s3 HC1.out A3.out).mono ?_);(case s1=>exact pC HR0.out);(case s3=>exact pC HR1.out);rintro e w27 ⟨rfl,hb⟩;refine⟨_,rfl,?_⟩;replace HB:=bS (qB HB) hb;(try clear hb);(try clear hk);(try clear hi)))
  go_ret
  exact⟨_,pE,pN,qB HB⟩
 subst c4
 rw [ip rfl] at H
 replace H:=oB H
 obtain⟨za,A50,H⟩:=H
 try dsimp only at H
 have A5:=aM A50
 clear A50
 have H':=aM H
 clear H
 go_enter Try.func96,Try.ntmps96
 go_wp2_with (first|((with_reducible refine gC 95 rfl ?_);refine gL 12 Try.func95 #[.slice A0 l0.length c0,.slice A1 l1.length c1] ?_;(with_reducible refine(fao.calls k _ _ l0 _ _ l1 true _ ?s1 HC0.out ?s3 HC1.out A3.out).mono ?_);(case s1=>exact pC HR0.out);(case s3=>exact pC HR1.out);rintro e w6 ⟨rfl,hb⟩;refine⟨_,rfl,?_⟩;replace HB:=bS (qB HB) hb;(try clear hb);(try clear hk);(try clear hi))|((with_reducible refine gC 48 rfl ?_);refine gL 15 Try.func48 #[.slice A1 l1.length c1] ?_;(with_reducible refine(fam.calls k _ _ l1 za _ ?s1 HC1.out A5.out).mono ?_);(case s1=>exact sC HR1 HB);rintro e w7 ⟨v729,rfl,ho0,hb⟩;refine⟨_,rfl,?_⟩;have zk:=aM (Kd.N_lower (Kd.N_mono (ok':=fun k_=>True) ho0 (fun k_ hk_=>trivial)) (below_size (qB HB)));replace HB:=bS (qB HB) hb;(try clear hb);(try clear hk);(try clear hi);(try clear ho0);obtain⟨Ao8,co8,eo8⟩:=Kd.N_slice zk.out;subst eo8))
 go_loopg [6,18] k (fun kq v6 v18 w'=>∃ (ye:List Int) (ya:Int),v18=.int .i64 ya∧Aside0 (fap.l0 kq l0 l1 za ye (za.length:Int) ya=some r)∧Aside0 (kq≤k)∧Aside0 (Kd.N (Kd.slice 3 (Kd.int .i64)) 22 w' w.heap.size (fun k_=>some k_≠(v6:Value).ownBlock) (.slice Ao8 za.length co8) za)∧Aside0 (Kd.R (Kd.int .i64) 3 w' w.heap.size (fun _=>True) v6 ye)∧Aside0 (Below w.heap.size w w'))
 case atStart=>exact⟨(([]:List Int)),(0),(pF),H',⟨Nat.le_refl _⟩,⟨by(with_reducible repeat(first|apply Kd.N_alloc|apply Kd.N_drewN|apply Kd.N_drew));exact Kd.N_mono zk.out (fun _ hk=>(by simp [Value.ownBlock]))⟩,⟨pN⟩,⟨qB HB⟩⟩
 clear H'
 try clear c1
 try clear c4
 obtain⟨ye,ya,rfl,HA,HK1,zb,zc,HB⟩:=hrel
 cases gk with
 | zero=>exact absurd HA.out (by simp [fap.l0])
 | succ k1=>?_
 have H:=HA.out
 clear HA
 simp only [fap.l0] at H
 by_cases c9:ya < (za.length:Int)
 rotate_left
 ·rw [iN c9] at H
  have zn:=dF c9
  clear c9
  obtain rfl:=Option.some.inj H
  go_wp2
  go_ret
  exact⟨_,pE,pR zc.out,qB HB⟩
 rw [ip c9] at H
 have zn:=dT c9
 clear c9
 have H':=aM H
 clear H
 go_wp2
 go_loopg [8,23] k1 (fun kq v8 v23 w'=>∃ (yc:List Int) (yb:Int),v23=.int .i64 yb∧Aside0 (fap.l1 kq l0 l1 za ye ya yc (za.length:Int) ya (l0.length:Int) yb=some r)∧Aside0 (kq≤k1)∧Aside0 (Kd.N (Kd.slice 3 (Kd.int .i64)) 22 w' w.heap.size (fun k_=>some k_≠(u6:Value).ownBlock∧some k_≠(v8:Value).ownBlock) (.slice Ao8 za.length co8) za)∧Aside0 (Kd.R (Kd.int .i64) 3 w' w.heap.size (fun k_=>some k_≠(v8:Value).ownBlock) u6 ye)∧Aside0 (Kd.R (Kd.int .i64) 3 w' w.heap.size (fun k_=>some k_≠(u6:Value).ownBlock) v8 yc)∧Aside0 (Below w.heap.size w w'))
 case atStart=>exact⟨(([]:List Int)),(0),(pF),H',⟨Nat.le_refl _⟩,⟨by(with_reducible repeat(first|apply Kd.N_alloc|apply Kd.N_drewN|apply Kd.N_drew));exact Kd.N_mono zb.out (fun _ hk=>⟨hk,(by simp [Value.ownBlock])⟩)⟩,⟨by(with_reducible repeat(first|apply rA|apply rN|apply rD));exact Kd.R_mono zc.out (fun _ hk=>(by simp [Value.ownBlock]))⟩,⟨pN⟩,⟨qB HB⟩⟩
 clear H'
 try clear zn
 obtain⟨yc,yb,rfl,HA,HK2,zb,zc,zd,HB⟩:=hrel
 cases gk with
 | zero=>exact absurd HA.out (by simp [fap.l1])
 | succ k2=>?_
 have H:=HA.out
 clear HA
 simp only [fap.l1] at H
 by_cases c10:yb < (l0.length:Int)
 rotate_left
 ·rw [iN c10] at H
  have yl:=dF c10
  clear c10
  replace H:=oB H
  obtain⟨zf,zo,H⟩:=H
  try dsimp only at H
  have A23:=aM zo
  clear zo
  by_cases c24:ye.length < 17592186044416
  rotate_left
  ·rw [iN c24] at H
   cases H
  rw [ip c24] at H
  have LMc24:=aM c24
  clear c24
  obtain⟨zp,zh⟩:∃ y_:List Int,y_=(ye ++ [zf]):=⟨_,rfl⟩
  replace H:(fap.l0 k2 l0 l1 za zp (za.length:Int) (wrap64 (ya + 1)))=some r:=pH zh H
  have Ny741:=aM zh
  clear zh
  have H':=aM H
  clear H
  obtain⟨zl,zm,ys⟩:=Kd.R_slice zd.out
  subst ys
  go_wp2_with (first|((with_reducible refine gC 99 rfl ?_);refine gL 54 Try.func99 #[.slice A0 l0.length c0,.slice zl yc.length zm] ?_;(with_reducible refine(fas.calls k2 _ _ l0 _ _ yc zf _ ?s1 HC0.out ?s3 ?s4 A23.out).mono ?_);(case s1=>exact sC HR0 HB);(case s3=>exact sR zd);(case s4=>exact sL zd);rintro e w' ⟨rfl,⟨nd,rfl⟩⟩;refine⟨_,rfl,?_⟩)|((with_reducible refine gate_builtin (b:=.append) (xs:=#[.tmp 51,.tmp 55]) rfl ?_);at_builtin;refine Kd.R_append (Kd.int .i64) (w0:=w) w.heap.size rfl (.tmp 51) (.tmp 55) 22 3 (.int .i64 0) 8 rfl Try.underlying22 info3 rfl (by decide) (by omega) u6 ye zf [.int .i64 zf] (fun k_=>some k_≠(.slice zl yc.length zm:Value).ownBlock) (fun _=>False) rfl rfl ?aP (fun _ hk=>hk.elim) ?aF ?aO ?aB ?aS ?aL ?_;(case aP=>exact rfl);(case aB=>exact(qB HB));(case aF=>exact(fun k_ hk=>Kd.fresh' (Kd.R_lt (pR zd.out)) k_ hk));(case aO=>exact(pR zc.out));(case aS=>exact(below_size (qB HB)));(case aL=>have:=LMc24.out;omega);intro v742 w26 ho hb hg hat;rw [← Ny741.out] at ho;replace zb:=aM (Kd.N_afterv (ok:=(fun k_=>some k_≠(.slice zl yc.length zm:Value).ownBlock)) (by(with_reducible repeat(first|apply Kd.N_alloc|apply Kd.N_drewN|apply Kd.N_drew));exact Kd.N_mono zb.out (fun _ hk=>⟨hk.2,hk.1⟩)) hg hat);replace zd:=aM (Kd.R_after (ok:=(fun _=>True)) (by(with_reducible repeat(first|apply rA|apply rN|apply rD));exact Kd.R_mono zd.out (fun _ hk=>⟨trivial,hk⟩)) hg hat);replace HB:=aM (hb);have HO743:=aM (ho);clear zc;clear ho hb hg hat))
  go_roundg k2
  case measure=>have:=HK1.out;have:=HK2.out;omega
  case rel=>exact⟨(zp),(wrap64 (ya + 1)),(pF),H',⟨pO2 HK1 HK2⟩,⟨by(with_reducible repeat(first|apply Kd.N_alloc|apply Kd.N_drewN|apply Kd.N_drew));exact Kd.N_mono zb.out (fun _ hk=>hk.2)⟩,⟨by(with_reducible repeat(first|apply rA|apply rN|apply rD));exact Kd.R_mono HO743.out (fun _ hk=>trivial)⟩,⟨qB HB⟩⟩
 rw [ip c10] at H
 have yl:=dT c10
 clear c10
 by_cases c11:0≤yb
 rotate_left
 ·rw [iN c11] at H
  cases H
 rw [ip c11] at H
 have c11b0:=dT c11
 clear c11
 by_cases c12:yb < (l0.length:Int)
 rotate_left
 ·rw [iN c12] at H
  cases H
 rw [ip c12] at H
 have c12b0:=dT c12
 clear c12
 by_cases c13:(rd l0 yb)=1
 ·rw [ip c13] at H
  have ym:=bT c13
  have yn:=nF c13
  clear c13
  by_cases c14:yc.length < 17592186044416
  rotate_left
  ·rw [iN c14] at H
   cases H
  rw [ip c14] at H
  have LMc14:=aM c14
  clear c14
  obtain⟨zq,zi⟩:∃ y_:List Int,y_=(yc ++ [0]):=⟨_,rfl⟩
  replace H:(fap.l1 k2 l0 l1 za ye ya zq (za.length:Int) ya (l0.length:Int) (wrap64 (yb + 1)))=some r:=pH zi H
  have Ny732:=aM zi
  clear zi
  have H':=aM H
  clear H
  obtain⟨yo,⟨⟩,yd,yt,yu⟩:=zI HR0.out yb
  replace yd:=zW HB yd
  go_wp2_with (first|((with_reducible refine gate_builtin (b:=.append) (xs:=#[.tmp 31,.tmp 32]) rfl ?_);at_builtin;refine Kd.R_append (Kd.int .i64) (w0:=w) w.heap.size rfl (.tmp 31) (.tmp 32) 22 3 (.int .i64 0) 8 rfl Try.underlying22 info3 rfl (by decide) (by omega) u8 yc 0 [.int .i64 0] (fun k_=>some k_≠(u6:Value).ownBlock) (fun _=>False) rfl rfl ?aP (fun _ hk=>hk.elim) ?aF ?aO ?aB ?aS ?aL ?_;(case aP=>exact rfl);(case aB=>exact(qB HB));(case aF=>exact(fun k_ hk=>Kd.fresh' (Kd.R_lt (pR zc.out)) k_ hk));(case aO=>exact(pR zd.out));(case aS=>exact(below_size (qB HB)));(case aL=>have:=LMc14.out;omega);intro v733 w15 ho hb hg hat;rw [← Ny732.out] at ho;replace zb:=aM (Kd.N_afterv (ok:=(fun k_=>some k_≠(u6:Value).ownBlock)) (by(with_reducible repeat(first|apply Kd.N_alloc|apply Kd.N_drewN|apply Kd.N_drew));exact zb.out) hg hat);replace zc:=aM (Kd.R_after (ok:=(fun _=>True)) (by(with_reducible repeat(first|apply rA|apply rN|apply rD));exact Kd.R_mono zc.out (fun _ hk=>⟨trivial,hk⟩)) hg hat);replace HB:=aM (hb);have HO734:=aM (ho);clear zd;clear ho hb hg hat))
  go_roundg k2
  case measure=>have:=HK1.out;have:=HK2.out;omega
  case rel=>exact⟨(zq),(wrap64 (yb + 1)),(pF),H',⟨pO2 HK1 HK2⟩,⟨by(with_reducible repeat(first|apply Kd.N_alloc|apply Kd.N_drewN|apply Kd.N_drew));exact zb.out⟩,⟨by(with_reducible repeat(first|apply rA|apply rN|apply rD));exact Kd.R_mono zc.out (fun _ hk=>hk.2)⟩,⟨pR HO734.out⟩,⟨qB HB⟩⟩
 rw [iN c13] at H
 have ym:=bF c13
 have yn:=nT c13
 by_cases c16:0≤ya
 rotate_left
 ·rw [iN c16] at H
  cases H
 rw [ip c16] at H
 have c16b0:=dT c16
 clear c16
 by_cases c17:ya < (za.length:Int)
 rotate_left
 ·rw [iN c17] at H
  cases H
 rw [ip c17] at H
 have c17b0:=dT c17
 clear c17
 obtain⟨ji18,hji18⟩:∃ j_:Int,(wrap64 ((wrap64 ((l1.length:Int) - (l0.length:Int))) + yb))=j_:=⟨_,rfl⟩
 replace H:(if 0≤(ji18)then(if(ji18) < ((rd_L1 za ya).length:Int)then(if yc.length < 17592186044416 then(fap.l1 k2 l0 l1 za ye ya (yc ++ [rd (rd_L1 za ya) (ji18)]) (za.length:Int) ya (l0.length:Int) (wrap64 (yb + 1)))else(none))else(none))else(none))=some r:=by first|(rw [hji18] at H;exact H)|(simp only [hji18] at H ⊢;exact H)
 have hji18w:(IntKind.i64.wrap ((wrap64 ((l1.length:Int) - (l0.length:Int))) + yb))=ji18:=(i64_w _).trans hji18
 by_cases c19:0≤(ji18)
 rotate_left
 ·rw [iN c19] at H
  cases H
 rw [ip c19] at H
 have c19b0:=dT c19
 clear c19
 by_cases c20:(ji18) < ((rd_L1 za ya).length:Int)
 rotate_left
 ·rw [iN c20] at H
  cases H
 rw [ip c20] at H
 have c20b0:=dT c20
 clear c20
 by_cases c21:yc.length < 17592186044416
 rotate_left
 ·rw [iN c21] at H
  cases H
 rw [ip c21] at H
 have LMc21:=aM c21
 clear c21
 obtain⟨zr,zj⟩:∃ y_:List Int,y_=(yc ++ [rd (rd_L1 za ya) (ji18)]):=⟨_,rfl⟩
 replace H:(fap.l1 k2 l0 l1 za ye ya zr (za.length:Int) ya (l0.length:Int) (wrap64 (yb + 1)))=some r:=pH zj H
 have Ny737:=aM zj
 clear zj
 have H':=aM H
 clear H
 obtain⟨yo,⟨⟩,yd,yt,yu⟩:=zI HR0.out yb
 replace yd:=zW HB yd
 have yp:0≤(ya:Int):=oD
 have yq:ya < (za.length:Int):=oD
 obtain⟨yr,A735_0,c735_0,yv,yi,yf,yg⟩:=at_L1 (Kd.N_reads' zb.out).2.2 ya yp yq
 cases yv
 obtain⟨ce735,yj,yk,yh⟩:=Kd.N_get zb.out [] ya yp (by first|exact yq|exact of_decide_eq_true pD|(have e_:=(Kd.N_reads' zb.out).1;omega))
 obtain⟨ua735_0,uc735_0,rfl,ul735_0,ge735_0⟩:=Kd.FK_slice_open yk
 have hv735_0:=yh 0 _ rfl
 rw [Nat.add_zero,show ((Kd.slice 3 (Kd.int .i64))).sz=1 from rfl,Nat.mul_one] at hv735_0
 replace hv735_0:=Option.some.inj (hv735_0.symm.trans yi)
 injection hv735_0 with hva_ hvn_ hvc_
 rw [hva_] at ge735_0
 rw [hvc_] at ul735_0
 have HL735_0:=aM (show Kd.V (Kd.int .i64) 3 _ w.heap.size _ _ (rd_L1 za ya) from Kd.V_mk ul735_0 ge735_0)
 clear hva_ hvn_ hvc_ ge735_0 ul735_0
 clear yh yj
 have ze:=aM yg
 have HC735_0:=aM yf
 clear yg yf
 have yw:0≤((ji18):Int):=oD
 have yx:(ji18) < ((rd_L1 za ya).length:Int):=oD
 obtain⟨ad736,yy,hx736_0⟩:=Kd.at_int (by repeat(first|(with_reducible exact ze.out)|(with_reducible refine Kd.C_alloc ?_ _)|(with_reducible refine Kd.C_drewN ?_ _)|(with_reducible refine Kd.C_drew ?_)|exact ze.out)) (ji18) yw yx
 cases yy
 go_wp2_with (first|((with_reducible refine gate_builtin (b:=.append) (xs:=#[.tmp 34,.tmp 48]) rfl ?_);at_builtin;refine Kd.R_append (Kd.int .i64) (w0:=w) w.heap.size rfl (.tmp 34) (.tmp 48) 22 3 (.int .i64 0) 8 rfl Try.underlying22 info3 rfl (by decide) (by omega) u8 yc (rd (rd_L1 za ya) (ji18)) [.int .i64 (rd (rd_L1 za ya) (ji18))] (fun k_=>some k_≠(u6:Value).ownBlock) (fun _=>False) rfl rfl ?aP (fun _ hk=>hk.elim) ?aF ?aO ?aB ?aS ?aL ?_;(case aP=>exact rfl);(case aB=>exact(qB HB));(case aF=>exact(fun k_ hk=>Kd.fresh' (Kd.R_lt (pR zc.out)) k_ hk));(case aO=>exact(pR zd.out));(case aS=>exact(below_size (qB HB)));(case aL=>have:=LMc21.out;omega);intro v738 w22 ho hb hg hat;rw [← Ny737.out] at ho;replace zb:=aM (Kd.N_afterv (ok:=(fun k_=>some k_≠(u6:Value).ownBlock)) (by(with_reducible repeat(first|apply Kd.N_alloc|apply Kd.N_drewN|apply Kd.N_drew));exact zb.out) hg hat);replace zc:=aM (Kd.R_after (ok:=(fun _=>True)) (by(with_reducible repeat(first|apply rA|apply rN|apply rD));exact Kd.R_mono zc.out (fun _ hk=>⟨trivial,hk⟩)) hg hat);replace HL735_0:=aM (Kd.V_afterv (ok:=(fun k_=>some k_≠(.slice (some yr) za.length co8:Value).ownBlock∧some k_≠(u6:Value).ownBlock)) (by(with_reducible repeat(first|apply Kd.V_alloc|apply Kd.V_drewN|apply Kd.V_drew));exact Kd.V_mono HL735_0.out (fun _ hk=>⟨⟨hk.2,hk.1.1⟩,hk.1.2⟩)) hg hat);replace HB:=aM (hb);have HO739:=aM (ho);clear zd;clear ho hb hg hat))
 go_roundg k2
 case measure=>have:=HK1.out;have:=HK2.out;omega
 case rel=>exact⟨(zr),(wrap64 (yb + 1)),(pF),H',⟨pO2 HK1 HK2⟩,⟨by(with_reducible repeat(first|apply Kd.N_alloc|apply Kd.N_drewN|apply Kd.N_drew));exact zb.out⟩,⟨by(with_reducible repeat(first|apply rA|apply rN|apply rD));exact Kd.R_mono zc.out (fun _ hk=>hk.2)⟩,⟨pR HO739.out⟩,⟨qB HB⟩⟩
def fat.f (k:Nat) (l0:List Int) (l1:List Int):Option (List Int×List Int×Int):=(fag.f k l1).bind fun za=>(if za=0 then((fao.f k l0 l1).bind fun ze=>(if ze=true then((some (([]:List Int):List Int)).bind fun zb=>(if zb.length + l1.length < 17592186044416 then((fap.f k l0 l1).bind fun zc=>(some ((zb ++ l1),zc,0)))else(none)))else(some (([]:List Int),([]:List Int),8))))else(some (([]:List Int),([]:List Int),za)))
theorem fat.calls (k:Nat)(A0:Option Addr)(c0:Nat)(l0:List Int)(A1:Option Addr)(c1:Nat)(l1:List Int)(r1:List Int)(r2:List Int) (r3:Int)(w:World)(hr0:Kd.C (Kd.int .i64) w A0 l0.length l0)(hc0:l0.length≤c0)(hr1:Kd.C (Kd.int .i64) w A1 l1.length l1)(hc1:l1.length≤c1)(h:fat.f k l0 l1=some (r1,r2,r3)) :
  Calls Try.prog 86 #[.slice A0 l0.length c0,.slice A1 l1.length c1] w fun e w'=>∃ v0_ v1_:Value,e=.returned (.tuple #[v0_,v1_,.int .i64 r3])∧Kd.R (Kd.int .i64) 3 w' w.heap.size (fun k_=>some k_≠(v1_:Value).ownBlock) v0_ r1∧Kd.R (Kd.int .i64) 3 w' w.heap.size (fun k_=>some k_≠(v0_:Value).ownBlock) v1_ r2∧Below w.heap.size w w':=by
 have HR0:=aM hr0
 have HC0:=aM hc0
 clear hr0 hc0
 have HR1:=aM hr1
 have HC1:=aM hc1
 clear hr1 hc1
 have HB:=aM (Below.refl w.heap.size w)
 have H:((fag.f k l1).bind fun za=>(if za=0 then((fao.f k l0 l1).bind fun ze=>(if ze=true then((some (([]:List Int):List Int)).bind fun zb=>(if zb.length + l1.length < 17592186044416 then((fap.f k l0 l1).bind fun zc=>(some ((zb ++ l1),zc,0)))else(none)))else(some (([]:List Int),([]:List Int),8))))else(some (([]:List Int),([]:List Int),za))))=some (r1,r2,r3):=h
 clear h
 replace H:=oB H
 obtain⟨za,A30,H⟩:=H
 try dsimp only at H
 have A3:=aM A30
 clear A30
 by_cases c4:za=0
 rotate_left
 ·rw [iN c4] at H
  have ya:=bF c4
  have yb:=nT c4
  replace H:=oi3 H
  obtain⟨rfl,rfl,rfl⟩:=H
  go_enter Try.func86,Try.ntmps86
  go_wp2_with (first|((with_reducible refine gC 30 rfl ?_);refine gL 9 Try.func30 #[.slice A1 l1.length c1] ?_;(with_reducible refine(fag.calls k _ _ l1 za _ ?s1 HC1.out A3.out).mono ?_);(case s1=>exact pC HR1.out);rintro e w' ⟨rfl,⟨nd,rfl⟩⟩;refine⟨_,rfl,?_⟩))
  go_ret3
  exact⟨_,_,pE,pN,pN,qB HB⟩
 rw [ip c4] at H
 have ya:=bT c4
 have yb:=nF c4
 clear c4
 replace H:=oB H
 obtain⟨ze,A50,H⟩:=H
 try dsimp only at H
 have A5:=aM A50
 clear A50
 by_cases c6:ze=true
 rotate_left
 ·replace c6:=Bool.eq_false_iff.mpr c6
  subst c6
  rw [iN (show ¬ (false=true) by decide)] at H
  replace H:=oi3 H
  obtain⟨rfl,rfl,rfl⟩:=H
  go_enter Try.func86,Try.ntmps86
  go_wp2_with (first|((with_reducible refine gC 30 rfl ?_);refine gL 9 Try.func30 #[.slice A1 l1.length c1] ?_;(with_reducible refine(fag.calls k _ _ l1 za _ ?s1 HC1.out A3.out).mono ?_);(case s1=>exact pC HR1.out);rintro e w' ⟨rfl,⟨nd,rfl⟩⟩;refine⟨_,rfl,?_⟩)|((with_reducible refine gC 95 rfl ?_);refine gL 15 Try.func95 #[.slice A0 l0.length c0,.slice A1 l1.length c1] ?_;(with_reducible refine(fao.calls k _ _ l0 _ _ l1 false _ ?s1 HC0.out ?s3 HC1.out A5.out).mono ?_);(case s1=>exact pC HR0.out);(case s3=>exact pC HR1.out);rintro e w14 ⟨rfl,hb⟩;refine⟨_,rfl,?_⟩;replace HB:=bS (qB HB) hb;(try clear hb);(try clear hk);(try clear hi)))
  go_ret3
  exact⟨_,_,pE,pN,pN,qB HB⟩
 subst c6
 rw [ip rfl] at H
 obtain⟨zb,zf⟩:∃ y_:List Int,y_=(([]:List Int)):=⟨_,rfl⟩
 replace H:(if zb.length + l1.length < 17592186044416 then((fap.f k l0 l1).bind fun zc=>(some ((zb ++ l1),zc,0)))else(none))=some (r1,r2,r3):=pH zf H
 have zh:=aM zf
 clear zf
 by_cases c7:zb.length + l1.length < 17592186044416
 rotate_left
 ·rw [iN c7] at H
  cases H
 rw [ip c7] at H
 have LMc7:=aM c7
 clear c7
 obtain⟨y749,zg⟩:∃ y_:List Int,y_=(zb ++ l1):=⟨_,rfl⟩
 replace H:((fap.f k l0 l1).bind fun zc=>(some (y749,zc,0)))=some (r1,r2,r3):=pH zg H
 have Ny749:=aM zg
 clear zg
 replace H:=oB H
 obtain⟨zc,A80,H⟩:=H
 try dsimp only at H
 have A8:=aM A80
 clear A80
 replace H:=oi3 H
 obtain⟨rfl,rfl,rfl⟩:=H
 go_enter Try.func86,Try.ntmps86
 go_wp2_with (first|((with_reducible refine gC 30 rfl ?_);refine gL 9 Try.func30 #[.slice A1 l1.length c1] ?_;(with_reducible refine(fag.calls k _ _ l1 za _ ?s1 HC1.out A3.out).mono ?_);(case s1=>exact pC HR1.out);rintro e w' ⟨rfl,⟨nd,rfl⟩⟩;refine⟨_,rfl,?_⟩)|((with_reducible refine gC 95 rfl ?_);refine gL 15 Try.func95 #[.slice A0 l0.length c0,.slice A1 l1.length c1] ?_;(with_reducible refine(fao.calls k _ _ l0 _ _ l1 true _ ?s1 HC0.out ?s3 HC1.out A5.out).mono ?_);(case s1=>exact pC HR0.out);(case s3=>exact pC HR1.out);rintro e w9 ⟨rfl,hb⟩;refine⟨_,rfl,?_⟩;replace HB:=bS (qB HB) hb;(try clear hb);(try clear hk);(try clear hi))|((with_reducible refine gD 17 rfl ?_);refine Kd.R_lit (Kd.int .i64) _ 3 ?hg (N:=17) ?hd (xs:=([]:List Int)) (inner:=[]) (ok:=fun _=>True) (okp:=fun _=>True) ?hr ?hp (fun _ hk=>hk) trivial (Below.refl _ _) (Nat.le_refl _) (by simp) ?_;(case hd=>rfl);(case hg=>rfl);(case hr=>first|(go_simp;done)|(go_simp;rfl));(case hp=>exact(Reps.none _ _));intro v747 w10 ho11 hb hg_ hnew_;clear hg_ hnew_;(first|rw [← zh.out] at ho11|(simp only [Int.reduceToNat] at ho11;rw [← zh.out] at ho11));have zi:=aM (Kd.R_lower ho11 (below_size (qB HB)));replace HB:=bS (qB HB) hb;clear hb ho11)|((with_reducible refine gate_builtin (b:=.append) (xs:=#[.tmp 17,.tmp 18]) rfl ?_);at_builtin;refine Kd.R_append_rows (Kd.int .i64) (w0:=w) w.heap.size rfl (.tmp 17) (.tmp 18) 22 3 (.int .i64 0) 8 rfl Try.underlying22 info3 rfl (by decide) (by omega) v747 zb l1 _ _ _ (fun _=>True) (fun _=>False) rfl rfl ?aO ?aR (fun _ _ h=>h) (fun _ h=>h.elim) ?aF ?aB ?aS ?aL ?_;(case aR=>exact sC HR1 HB);(case aB=>exact(qB HB));(case aF=>exact(fun _ _=>trivial));(case aO=>exact(pR zi.out));(case aS=>exact(below_size (qB HB)));(case aL=>have:=LMc7.out;omega);intro v750 w12 ho hb hg hat;rw [← Ny749.out] at ho;replace HB:=aM (hb);have zd:=aM (ho);clear zi;clear ho hb hg hat)|((with_reducible refine gC 96 rfl ?_);refine gL 22 Try.func96 #[.slice A0 l0.length c0,.slice A1 l1.length c1] ?_;(with_reducible refine(fap.calls k _ _ l0 _ _ l1 zc _ ?s1 HC0.out ?s3 HC1.out A8.out).mono ?_);(case s1=>exact sC HR0 HB);(case s3=>exact sC HR1 HB);rintro e w13 ⟨v753,rfl,ho0,hb⟩;refine⟨_,rfl,?_⟩;have HO754:=aM (Kd.R_lower (Kd.R_new' ho0 (Kd.R_lt (pR zd.out))) (below_size (qB HB)));replace zd:=eR zd ho0 hb;replace HB:=bS (qB HB) hb;(try clear hb);(try clear hk);(try clear hi);(try clear ho0)))
 go_ret3
 exact⟨_,_,pE,by(with_reducible repeat(first|apply rA|apply rN|apply rD));exact Kd.R_mono zd.out (fun _ hk=>hk.2),by(with_reducible repeat(first|apply rA|apply rN|apply rD));exact Kd.R_mono HO754.out (fun _ hk=>hk.2),qB HB⟩
def fba.l0:Nat→List Int→List Int→Int→Int→Int→Option (Int)
 | 0,_,_,_,_,_=>none
 | k + 1,x0,x1,x5,x8,x9=>if x9 < x8 then(if 0≤x9 then(if x9 < (x0.length:Int)then(if x9 < (x1.length:Int)then(fba.l0 k x0 x1 (wrap64 ((wrap64 (x5 * (rd x0 x9))) + (rd x1 x9))) x8 (wrap64 (x9 + 1)))else(none))else(none))else(none))else(some x5)
def fba.f (k:Nat) (l0:List Int) (l1:List Int):Option (Int):=fba.l0 k l0 l1 0 (l0.length:Int) 0
theorem fba.calls (k:Nat)(A0:Option Addr)(c0:Nat)(l0:List Int)(A1:Option Addr)(c1:Nat)(l1:List Int) (r:Int)(w:World)(hr0:Kd.C (Kd.int .i64) w A0 l0.length l0)(hc0:l0.length≤c0)(hr1:Kd.C (Kd.int .i64) w A1 l1.length l1)(hc1:l1.length≤c1)(h:fba.f k l0 l1=some r) :
  Calls Try.prog 88 #[.slice A0 l0.length c0,.slice A1 l1.length c1] w fun e w'=>e=.returned (.int .i64 r)∧Drawn0 w w':=by
 have HR0:=aM hr0
 have HC0:=aM hc0
 clear hr0 hc0
 have HR1:=aM hr1
 have HC1:=aM hc1
 clear hr1 hc1
 have H:(fba.l0 k l0 l1 0 (l0.length:Int) 0)=some r:=h
 clear h
 have H':=aM H
 clear H
 go_enter Try.func88,Try.ntmps88
 go_wp2
 repeat(go_quiet (fail);try go_wp2)
 go_loopg [5,9] k (fun kq v5 v9 w'=>∃ (yb:Int) (ya:Int),v5=.int .i64 yb∧v9=.int .i64 ya∧Aside0 (fba.l0 kq l0 l1 yb (l0.length:Int) ya=some r)∧Aside0 (kq≤k)∧Drawn0 w w')
 case atStart=>exact⟨(0),(0),(pF),(pF),H',⟨Nat.le_refl _⟩,by repeat(first|exact Drawn0.refl _|apply Drawn0.step)⟩
 clear H'
 try clear c1
 obtain⟨yb,ya,rfl,rfl,HA,HK1,⟨m1,rfl⟩⟩:=hrel
 cases gk with
 | zero=>exact absurd HA.out (by simp [fba.l0])
 | succ k1=>?_
 have H:=HA.out
 clear HA
 simp only [fba.l0] at H
 by_cases c3:ya < (l0.length:Int)
 rotate_left
 ·rw [iN c3] at H
  have yc:=dF c3
  clear c3
  obtain rfl:=Option.some.inj H
  go_wp2
  repeat(go_quiet (fail);try go_wp2)
  go_ret
  exact⟨pF,by repeat(first|exact Drawn0.refl _|apply Drawn0.step)⟩
 rw [ip c3] at H
 have yc:=dT c3
 clear c3
 by_cases c4:0≤ya
 rotate_left
 ·rw [iN c4] at H
  cases H
 rw [ip c4] at H
 have c4b0:=dT c4
 clear c4
 by_cases c5:ya < (l0.length:Int)
 rotate_left
 ·rw [iN c5] at H
  cases H
 rw [ip c5] at H
 have c5b0:=dT c5
 clear c5
 by_cases c6:ya < (l1.length:Int)
 rotate_left
 ·rw [iN c6] at H
  cases H
 rw [ip c6] at H
 have c6b0:=dT c6
 clear c6
 have H':=aM H
 clear H
 obtain⟨ad605,⟨⟩,hx605_0,p605,q605⟩:=zI HR0.out ya
 obtain⟨ad606,⟨⟩,hx606_0,p606,q606⟩:=zI HR1.out ya
 go_wp2
 repeat(go_quiet (fail);try go_wp2)
 go_roundg k1
 case measure=>have:=HK1.out;omega
 case rel=>exact⟨(wrap64 ((wrap64 (yb * (rd l0 ya))) + (rd l1 ya))),(wrap64 (ya + 1)),(pF),(pF),H',⟨pO1 HK1⟩,by repeat(first|exact Drawn0.refl _|apply Drawn0.step)⟩
def faz.l0:Nat→List Int→Int→List Int→List Int→List (List Int)→List Int→Int→Int→Option (List Int×List Int×Int)
 | 0,_,_,_,_,_,_,_,_=>none
 | k + 1,x0,x1,x2,x9,x11,x12,x29,x30=>if x30 < x29 then((some (([]:List Int):List Int)).bind fun zk=>(if 0≤x30 then(if x30 < (x11.length:Int)then(if zk.length + (rd_L1 x11 x30).length < 17592186044416 then((some (zk ++ (rd_L1 x11 x30):List Int)).bind fun za=>(if 0≤x1 then(if x1 < (za.length:Int)then(if 0≤(rd za x1)then(if(rd za x1) < (x2.length:Int)then((fba.f k x0 (za.set (x1:Int).toNat (rd x2 (rd za x1)))).bind fun zi=>(if x12.length < 17592186044416 then(faz.l0 k x0 x1 x2 x9 x11 (x12 ++ [zi]) x29 (wrap64 (x30 + 1)))else(none)))else(none))else(none))else(none))else(none)))else(none))else(none))else(none)))else(some (x9,x12,0))
def faz.f (k:Nat) (l0:List Int) (a1:Int) (l2:List Int):Option (List Int×List Int×Int):=(fal.f k l0 a1 (l2.length:Int)).bind fun bt648=>(if bt648.2=0 then((fam.f k bt648.1).bind fun zb=>(faz.l0 k l0 a1 l2 bt648.1 zb ([]:List Int) (zb.length:Int) 0))else(some (([]:List Int),([]:List Int),bt648.2)))
theorem faz.calls (k:Nat)(A0:Option Addr)(c0:Nat)(l0:List Int) (a1:Int)(A2:Option Addr)(c2:Nat)(l2:List Int)(r1:List Int)(r2:List Int) (r3:Int)(w:World)(hr0:Kd.C (Kd.int .i64) w A0 l0.length l0)(hc0:l0.length≤c0)(hr2:Kd.C (Kd.int .i64) w A2 l2.length l2)(hc2:l2.length≤c2)(h:faz.f k l0 a1 l2=some (r1,r2,r3)) :
  Calls Try.prog 66 #[.slice A0 l0.length c0,.int .i64 a1,.slice A2 l2.length c2] w fun e w'=>∃ v0_ v1_:Value,e=.returned (.tuple #[v0_,v1_,.int .i64 r3])∧Kd.R (Kd.int .i64) 3 w' w.heap.size (fun k_=>some k_≠(v1_:Value).ownBlock) v0_ r1∧Kd.R (Kd.int .i64) 3 w' w.heap.size (fun k_=>some k_≠(v0_:Value).ownBlock) v1_ r2∧Below w.heap.size w w':=by
 have HR0:=aM hr0
 have HC0:=aM hc0
 clear hr0 hc0
 have HR2:=aM hr2
 have HC2:=aM hc2
 clear hr2 hc2
 have HB:=aM (Below.refl w.heap.size w)
 have H:((fal.f k l0 a1 (l2.length:Int)).bind fun bt648=>(if bt648.2=0 then((fam.f k bt648.1).bind fun zb=>(faz.l0 k l0 a1 l2 bt648.1 zb ([]:List Int) (zb.length:Int) 0))else(some (([]:List Int),([]:List Int),bt648.2))))=some (r1,r2,r3):=h
 clear h
 replace H:=oB H
 obtain⟨⟨zj,zl⟩,A40,H⟩:=H
 try dsimp only at H
 have A4:=aM A40
 clear A40
 by_cases c5:zl=0
 rotate_left
 ·rw [iN c5] at H
  have zx:=bF c5
  have zy:=nT c5
  replace H:=oi3 H
  obtain⟨rfl,rfl,rfl⟩:=H
  go_enter Try.func66,Try.ntmps66
  go_wp2_with (first|((with_reducible refine gC 63 rfl ?_);refine gL 20 Try.func63 #[.slice A0 l0.length c0,.int .i64 a1,.int .i64 (l2.length:Int)] ?_;(with_reducible refine(fal.calls k _ _ l0 a1 (l2.length:Int) zj zl _ ?s1 HC0.out A4.out).mono ?_);(case s1=>exact pC HR0.out);rintro e w29 ⟨v650,rfl,ho0,hb⟩;refine⟨_,rfl,?_⟩;have zh:=aM (Kd.R_lower ho0 (below_size (qB HB)));replace HB:=bS (qB HB) hb;(try clear hb);(try clear hk);(try clear hi);(try clear ho0)))
  go_ret3
  exact⟨_,_,pE,pN,pN,qB HB⟩
 rw [ip c5] at H
 have zx:=bT c5
 have zy:=nF c5
 clear c5
 replace H:=oB H
 obtain⟨zb,A60,H⟩:=H
 try dsimp only at H
 have A6:=aM A60
 clear A60
 have H':=aM H
 clear H
 go_enter Try.func66,Try.ntmps66
 go_wp2_with (first|((with_reducible refine gC 63 rfl ?_);refine gL 20 Try.func63 #[.slice A0 l0.length c0,.int .i64 a1,.int .i64 (l2.length:Int)] ?_;(with_reducible refine(fal.calls k _ _ l0 a1 (l2.length:Int) zj zl _ ?s1 HC0.out A4.out).mono ?_);(case s1=>exact pC HR0.out);rintro e w7 ⟨v650,rfl,ho0,hb⟩;refine⟨_,rfl,?_⟩;have zh:=aM (Kd.R_lower ho0 (below_size (qB HB)));replace HB:=bS (qB HB) hb;(try clear hb);(try clear hk);(try clear hi);(try clear ho0);obtain⟨Ao8,co8,eo8⟩:=Kd.R_slice zh.out;subst eo8)|((with_reducible refine gC 48 rfl ?_);refine gL 27 Try.func48 #[.slice Ao8 zj.length co8] ?_;(with_reducible refine(fam.calls k _ _ zj zb _ ?s1 ?s2 A6.out).mono ?_);(case s1=>exact sR zh);(case s2=>exact sL zh);rintro e w9 ⟨v653,rfl,ho0,hb⟩;refine⟨_,rfl,?_⟩;have zu:=aM (Kd.N_lower (Kd.N_mono (ok':=fun k_=>some k_≠(.slice Ao8 zj.length co8:Value).ownBlock) ho0 (fun k_ hk_=>(Kd.fresh' (Kd.R_lt (pR zh.out)) k_ hk_))) (below_size (qB HB)));replace zh:=bR zh hb;replace HB:=bS (qB HB) hb;(try clear hb);(try clear hk);(try clear hi);(try clear ho0);obtain⟨yt,zt,yu⟩:=Kd.N_slice zu.out;subst yu))
 go_loopg [12,30] k (fun kq v12 v30 w'=>∃ (yb:List Int) (yd:List Int) (ya:Int),v30=.int .i64 ya∧Aside0 (faz.l0 kq l0 a1 l2 yb zb yd (zb.length:Int) ya=some (r1,r2,r3))∧Aside0 (kq≤k)∧Aside0 (Kd.R (Kd.int .i64) 3 w' w.heap.size (fun k_=>some k_≠(v12:Value).ownBlock) (.slice Ao8 zj.length co8) yb)∧Aside0 (Kd.N (Kd.slice 3 (Kd.int .i64)) 22 w' w.heap.size (fun k_=>some k_≠((.slice Ao8 zj.length co8):Value).ownBlock∧some k_≠(v12:Value).ownBlock) (.slice yt zb.length zt) zb)∧Aside0 (Kd.R (Kd.int .i64) 3 w' w.heap.size (fun k_=>some k_≠((.slice Ao8 zj.length co8):Value).ownBlock) v12 yd)∧Aside0 (Below w.heap.size w w'))
 case atStart=>exact⟨(zj),(([]:List Int)),(0),(pF),H',⟨Nat.le_refl _⟩,⟨by(with_reducible repeat(first|apply rA|apply rN|apply rD));exact Kd.R_mono zh.out (fun _ hk=>(by simp [Value.ownBlock]))⟩,⟨by(with_reducible repeat(first|apply Kd.N_alloc|apply Kd.N_drewN|apply Kd.N_drew));exact Kd.N_mono zu.out (fun _ hk=>⟨hk,(by simp [Value.ownBlock])⟩)⟩,⟨pN⟩,⟨qB HB⟩⟩
 clear H'
 try clear c2
 try clear zx
 try clear zy
 obtain⟨yb,yd,ya,rfl,HA,HK1,zf,zd,ze,HB⟩:=hrel
 have yc:=(Kd.R_reads' zf.out).1
 rw [yc] at zf
 (try simp only [yc])
 (try simp only [yc] at zd)
 (try simp only [yc] at ze)
 cases gk with
 | zero=>exact absurd HA.out (by simp [faz.l0])
 | succ k1=>?_
 have H:=HA.out
 clear HA
 simp only [faz.l0] at H
 by_cases c11:ya < (zb.length:Int)
 rotate_left
 ·rw [iN c11] at H
  have zo:=dF c11
  (try simp only [yc] at zo)
  clear c11
  replace H:=oi3 H
  obtain⟨rfl,rfl,rfl⟩:=H
  go_wp2
  go_ret3
  exact⟨_,_,pE,pR zf.out,pR ze.out,qB HB⟩
 rw [ip c11] at H
 have zo:=dT c11
 (try simp only [yc] at zo)
 clear c11
 obtain⟨zk,zp⟩:∃ y_:List Int,y_=(([]:List Int)):=⟨_,rfl⟩
 replace H:(if 0≤ya then(if ya < (zb.length:Int)then(if zk.length + (rd_L1 zb ya).length < 17592186044416 then((some (zk ++ (rd_L1 zb ya):List Int)).bind fun za=>(if 0≤a1 then(if a1 < (za.length:Int)then(if 0≤(rd za a1)then(if(rd za a1) < (l2.length:Int)then((fba.f k1 l0 (za.set (a1:Int).toNat (rd l2 (rd za a1)))).bind fun zi=>(if yd.length < 17592186044416 then(faz.l0 k1 l0 a1 l2 yb zb (yd ++ [zi]) (zb.length:Int) (wrap64 (ya + 1)))else(none)))else(none))else(none))else(none))else(none)))else(none))else(none))else(none))=some (r1,r2,r3):=pH zp H
 have zv:=aM zp
 clear zp
 by_cases c12:0≤ya
 rotate_left
 ·rw [iN c12] at H
  cases H
 rw [ip c12] at H
 have c12b0:=dT c12
 clear c12
 by_cases c13:ya < (zb.length:Int)
 rotate_left
 ·rw [iN c13] at H
  cases H
 rw [ip c13] at H
 have yo:=dT c13
 (try simp only [yc] at yo)
 clear c13
 by_cases c14:zk.length + (rd_L1 zb ya).length < 17592186044416
 rotate_left
 ·rw [iN c14] at H
  cases H
 rw [ip c14] at H
 have LMc14:=aM c14
 clear c14
 obtain⟨za,zq⟩:∃ y_:List Int,y_=(zk ++ (rd_L1 zb ya)):=⟨_,rfl⟩
 replace H:(if 0≤a1 then(if a1 < (za.length:Int)then(if 0≤(rd za a1)then(if(rd za a1) < (l2.length:Int)then((fba.f k1 l0 (za.set (a1:Int).toNat (rd l2 (rd za a1)))).bind fun zi=>(if yd.length < 17592186044416 then(faz.l0 k1 l0 a1 l2 yb zb (yd ++ [zi]) (zb.length:Int) (wrap64 (ya + 1)))else(none)))else(none))else(none))else(none))else(none))=some (r1,r2,r3):=pH zq H
 have Ny659:=aM zq
 clear zq
 by_cases c15:0≤a1
 rotate_left
 ·rw [iN c15] at H
  cases H
 rw [ip c15] at H
 have c15b0:=dT c15
 clear c15
 by_cases c16:a1 < (za.length:Int)
 rotate_left
 ·rw [iN c16] at H
  cases H
 rw [ip c16] at H
 have yp:=dT c16
 (try simp only [yc] at yp)
 clear c16
 by_cases c17:0≤(rd za a1)
 rotate_left
 ·rw [iN c17] at H
  cases H
 rw [ip c17] at H
 have c17b0:=dT c17
 clear c17
 by_cases c18:(rd za a1) < (l2.length:Int)
 rotate_left
 ·rw [iN c18] at H
  cases H
 rw [ip c18] at H
 have yq:=dT c18
 (try simp only [yc] at yq)
 clear c18
 obtain⟨zn,zr⟩:∃ y_:List Int,y_=(za.set (a1:Int).toNat (rd l2 (rd za a1))):=⟨_,rfl⟩
 replace H:((fba.f k1 l0 zn).bind fun zi=>(if yd.length < 17592186044416 then(faz.l0 k1 l0 a1 l2 yb zb (yd ++ [zi]) (zb.length:Int) (wrap64 (ya + 1)))else(none)))=some (r1,r2,r3):=pH zr H
 have Ny664:=aM zr
 clear zr
 replace H:=oB H
 obtain⟨zi,zz,H⟩:=H
 try dsimp only at H
 have A20:=aM zz
 clear zz
 by_cases c21:yd.length < 17592186044416
 rotate_left
 ·rw [iN c21] at H
  cases H
 rw [ip c21] at H
 have LMc21:=aM c21
 clear c21
 obtain⟨z0,zs⟩:∃ y_:List Int,y_=(yd ++ [zi]):=⟨_,rfl⟩
 replace H:(faz.l0 k1 l0 a1 l2 yb zb z0 (zb.length:Int) (wrap64 (ya + 1)))=some (r1,r2,r3):=pH zs H
 have Ny666:=aM zs
 clear zs
 have H':=aM H
 clear H
 go_wp2_with (first|((with_reducible refine gD 33 rfl ?_);refine Kd.R_lit (Kd.int .i64) _ 3 ?hg (N:=33) ?hd (xs:=([]:List Int)) (inner:=[]) (ok:=fun _=>True) (okp:=fun _=>True) ?hr ?hp (fun _ hk=>hk) trivial (Below.refl _ _) (Nat.le_refl _) (by simp) ?_;(case hd=>rfl);(case hg=>rfl);(case hr=>first|(go_simp;done)|(go_simp;rfl));(case hp=>exact(Reps.none _ _));intro v656 w22 ho23 hb hg_ hnew_;clear hg_ hnew_;(first|rw [← zv.out] at ho23|(simp only [Int.reduceToNat] at ho23;rw [← zv.out] at ho23));replace zd:=aM (Kd.N_elder' (by(with_reducible repeat(first|apply Kd.N_alloc|apply Kd.N_drewN|apply Kd.N_drew));exact zd.out) (Kd.R_base ho23) hb);have zw:=aM (Kd.R_lower (Kd.R_new' (Kd.R_new' ho23 (Kd.R_lt (pR zf.out))) (Kd.R_lt (pR ze.out))) (below_size (qB HB)));replace zf:=eR zf ho23 hb;replace ze:=eR ze ho23 hb;replace HB:=bS (qB HB) hb;clear hb ho23;have yr:0≤(ya:Int):=oD;have ys:ya < (zb.length:Int):=oD;obtain⟨yi,A658_0,c658_0,yv,yk,yf,yg⟩:=at_L1 (Kd.N_reads' zd.out).2.2 ya yr ys;cases yv;obtain⟨ce658,ym,yn,yj⟩:=Kd.N_get zd.out [] ya yr (by first|exact ys|exact of_decide_eq_true pD|(have e_:=(Kd.N_reads' zd.out).1;omega));obtain⟨ua658_0,uc658_0,rfl,ul658_0,ge658_0⟩:=Kd.FK_slice_open yn;have hv658_0:=yj 0 _ rfl;rw [Nat.add_zero,show ((Kd.slice 3 (Kd.int .i64))).sz=1 from rfl,Nat.mul_one] at hv658_0;replace hv658_0:=Option.some.inj (hv658_0.symm.trans yk);injection hv658_0 with hva_ hvn_ hvc_;rw [hva_] at ge658_0;rw [hvc_] at ul658_0;have HL658_0:=aM (show Kd.V (Kd.int .i64) 3 _ w.heap.size _ _ (rd_L1 zb ya) from Kd.V_mk ul658_0 ge658_0);clear hva_ hvn_ hvc_ ge658_0 ul658_0;clear yj ym;have zm:=aM yg;have HC658_0:=aM yf;clear yg yf)|((with_reducible refine gate_builtin (b:=.append) (xs:=#[.tmp 33,.tmp 37]) rfl ?_);at_builtin;refine Kd.R_append_rows (Kd.int .i64) (w0:=w) w.heap.size rfl (.tmp 33) (.tmp 37) 22 3 (.int .i64 0) 8 rfl Try.underlying22 info3 rfl (by decide) (by omega) v656 zk (rd_L1 zb ya) _ _ _ (fun k_=>some k_≠(.slice Ao8 yb.length co8:Value).ownBlock∧some k_≠(u12:Value).ownBlock) (fun _=>False) rfl rfl ?aO ?aR (fun _ _ h=>h) (fun _ h=>h.elim) ?aF ?aB ?aS ?aL ?_;(case aR=>repeat(first|exact(by repeat(first|(with_reducible exact zm.out)|(with_reducible refine Kd.C_alloc ?_ _)|(with_reducible refine Kd.C_drewN ?_ _)|(with_reducible refine Kd.C_drew ?_)|exact zm.out))|(with_reducible refine Kd.C_alloc ?_ _)|(with_reducible refine Kd.C_drewN ?_ _)|(with_reducible refine Kd.C_drew ?_)));(case aB=>exact(qB HB));(case aF=>exact(fun k_ hk=>⟨Kd.fresh' (Kd.R_lt (pR zf.out)) k_ hk,Kd.fresh' (Kd.R_lt (pR ze.out)) k_ hk⟩));(case aO=>exact(by(with_reducible repeat(first|apply rA|apply rN|apply rD));exact Kd.R_mono zw.out (fun _ hk=>⟨hk.1.2,hk.2⟩)));(case aS=>exact(below_size (qB HB)));(case aL=>have:=LMc14.out;omega);intro v660 w24 ho hb hg hat;rw [← Ny659.out] at ho;replace zf:=aM (Kd.R_after (ok:=(fun k_=>some k_≠(u12:Value).ownBlock)) (pR zf.out) hg hat);replace zd:=aM (Kd.N_afterv (ok:=(fun k_=>some k_≠(.slice Ao8 yb.length co8:Value).ownBlock∧some k_≠(u12:Value).ownBlock)) (by(with_reducible repeat(first|apply Kd.N_alloc|apply Kd.N_drewN|apply Kd.N_drew));exact zd.out) hg hat);replace ze:=aM (Kd.R_after (ok:=(fun k_=>some k_≠(.slice Ao8 yb.length co8:Value).ownBlock)) (pR ze.out) hg hat);replace HL658_0:=aM (Kd.V_afterv (ok:=(fun k_=>some k_≠(.slice Ao8 yb.length co8:Value).ownBlock∧some k_≠(.slice (some yi) zb.length zt:Value).ownBlock∧some k_≠(u12:Value).ownBlock)) (by(with_reducible repeat(first|apply Kd.V_alloc|apply Kd.V_drewN|apply Kd.V_drew));exact Kd.V_mono HL658_0.out (fun _ hk=>⟨⟨hk.1.1.1,⟨hk.2,hk.1.1.2⟩⟩,hk.1.2⟩)) hg hat);replace HB:=aM (hb);have zc:=aM (ho);clear zw;clear ho hb hg hat;obtain⟨Ao25,zg,yw⟩:=Kd.R_slice zc.out;subst yw;obtain⟨ad662,⟨⟩,yl,p662,q662⟩:=zI (Kd.R_reads' zc.out).2.2 a1;obtain⟨ad663,⟨⟩,yh,p663,q663⟩:=zI HR2.out (rd za a1);replace yh:=zW HB yh;have yx:0≤(a1:Int):=oD;have yy:(a1:Int) < ((za.length:Int):Int):=oD;obtain⟨ye,co19,z1,z2,gl19,cl19,HG19⟩:=Kd.R_form zc.out (by omega);(first|cases z1|(injection z1 with ea_ en_ ec_;(first|subst ea_|(injection ea_ with ea_;subst ea_));subst ec_;clear en_));have GB19:=aM z2;have GG19:=aM HG19;clear z2 gl19 HG19;(first|simp only [add_plain] at yl|skip);obtain⟨hx19_0,hf19_0⟩:=Kd.R_celln 0 zc.out (a1:Int) yx yy;obtain⟨hy26_,hz26_⟩:=Kd.R_celln 0 zc.out (a1:Int) (of_decide_eq_true pD) (of_decide_eq_true pD);have HP26:=Kd.R_putg zc.out (a1:Int) (rd l2 (rd za a1)))|((with_reducible refine gate_store (t:=3) (p:=48) rfl ?_);refine store_event (t:=3) (p:=48) (v:=?vo_w27) (w1:=(w24.setCell ⟨ye,(a1:Int).toNat,none⟩ (.int .i64 (rd l2 (rd za a1))))) ?hg ?ho ?hn ?hr ?_;(case ho=>rfl);(case hg=>rfl);(case hn=>rfl);(case hr=>first|(go_simp;done)|(go_simp;rfl));intro w27 hw;have hg:w24.grownBy w27 (some ye):=(by rw [hw];exact HP26.2);have hp_:Kd.R (Kd.int .i64) 3 w27 w.heap.size (fun k_=>some k_≠(.slice Ao8 yb.length co8:Value).ownBlock∧some k_≠(u12:Value).ownBlock) (.slice (some ⟨ye,0,none⟩) za.length zg) zn:=(by rw [hw,Ny664.out];exact HP26.1);clear HP26;replace zf:=aM (Kd.R_after (v:=(.slice (some ⟨ye,0,none⟩) za.length zg)) (v1:=(.slice (some ⟨ye,0,none⟩) za.length zg)) (ok:=(fun k_=>some k_≠(u12:Value).ownBlock)) (pR zf.out) hg (.inl rfl));replace zd:=aM (Kd.N_afterv (v:=(.slice (some ⟨ye,0,none⟩) za.length zg)) (v1:=(.slice (some ⟨ye,0,none⟩) za.length zg)) (ok:=(fun k_=>some k_≠(.slice Ao8 yb.length co8:Value).ownBlock∧some k_≠(u12:Value).ownBlock)) (by(with_reducible repeat(first|apply Kd.N_alloc|apply Kd.N_drewN|apply Kd.N_drew));exact zd.out) hg (.inl rfl));replace ze:=aM (Kd.R_after (v:=(.slice (some ⟨ye,0,none⟩) za.length zg)) (v1:=(.slice (some ⟨ye,0,none⟩) za.length zg)) (ok:=(fun k_=>some k_≠(.slice Ao8 yb.length co8:Value).ownBlock)) (pR ze.out) hg (.inl rfl));replace HL658_0:=aM (Kd.V_afterv (v:=(.slice (some ⟨ye,0,none⟩) za.length zg)) (v1:=(.slice (some ⟨ye,0,none⟩) za.length zg)) (ok:=(fun k_=>some k_≠(.slice Ao8 yb.length co8:Value).ownBlock∧some k_≠(.slice (some yi) zb.length zt:Value).ownBlock∧some k_≠(u12:Value).ownBlock)) (pV HL658_0.out) hg (.inl rfl));replace zc:=aM (hp_);replace HB:=aM ((by rw [hw];exact below_set (HB.out) GB19.out:Below w.heap.size w w27));clear hg hw hp_)|((with_reducible refine gC 88 rfl ?_);refine goesL_ (some 52) rfl rfl Try.func88 (by kernel_rfl) rfl #[.slice A0 l0.length c0,.slice (some ⟨ye,0,none⟩) zn.length zg] rfl (by(try simp only [List.map_toArray,List.map_cons,List.map_nil]);first|done|(rw [show zn.length=za.length from (Kd.R_reads' zc.out).1.symm] <;> rfl)|rfl|(simp only [List.length_drop,List.length_take];rfl)) ?_;(with_reducible refine(fba.calls k1 _ _ l0 _ _ zn zi _ ?s1 HC0.out ?s3 ?s4 A20.out).mono ?_);(case s1=>exact sC HR0 HB);(case s3=>exact sR zc);(case s4=>rw [show zn.length=za.length from (Kd.R_reads' zc.out).1.symm];exact sL zc);rintro e w' ⟨rfl,⟨nd,rfl⟩⟩;refine⟨_,rfl,?_⟩)|((with_reducible refine gate_builtin (b:=.append) (xs:=#[.tmp 49,.tmp 53]) rfl ?_);at_builtin;refine Kd.R_append (Kd.int .i64) (w0:=w) w.heap.size rfl (.tmp 49) (.tmp 53) 22 3 (.int .i64 0) 8 rfl Try.underlying22 info3 rfl (by decide) (by omega) u12 yd zi [.int .i64 zi] (fun k_=>some k_≠(.slice Ao8 yb.length co8:Value).ownBlock∧some k_≠(.slice (some ⟨ye,0,none⟩) za.length zg:Value).ownBlock) (fun _=>False) rfl rfl ?aP (fun _ hk=>hk.elim) ?aF ?aO ?aB ?aS ?aL ?_;(case aP=>exact rfl);(case aB=>exact(qB HB));(case aF=>exact(fun k_ hk=>⟨Kd.fresh' (Kd.R_lt (pR zf.out)) k_ hk,Kd.fresh' (Kd.R_lt (pR zc.out)) k_ hk⟩));(case aO=>exact(pR ze.out));(case aS=>exact(below_size (qB HB)));(case aL=>have:=LMc21.out;omega);intro v667 w28 ho hb hg hat;rw [← Ny666.out] at ho;replace zf:=aM (Kd.R_after (ok:=(fun k_=>some k_≠(.slice (some ⟨ye,0,none⟩) za.length zg:Value).ownBlock)) (by(with_reducible repeat(first|apply rA|apply rN|apply rD));exact Kd.R_mono zf.out (fun _ hk=>⟨hk.2,hk.1⟩)) hg hat);replace zd:=aM (Kd.N_afterv (ok:=(fun k_=>some k_≠(.slice Ao8 yb.length co8:Value).ownBlock∧some k_≠(.slice (some ⟨ye,0,none⟩) za.length zg:Value).ownBlock)) (by(with_reducible repeat(first|apply Kd.N_alloc|apply Kd.N_drewN|apply Kd.N_drew));exact Kd.N_mono zd.out (fun _ hk=>⟨⟨hk.1.1,hk.2⟩,hk.1.2⟩)) hg hat);replace HL658_0:=aM (Kd.V_afterv (ok:=(fun k_=>some k_≠(.slice Ao8 yb.length co8:Value).ownBlock∧some k_≠(.slice (some yi) zb.length zt:Value).ownBlock∧some k_≠(.slice (some ⟨ye,0,none⟩) za.length zg:Value).ownBlock)) (by(with_reducible repeat(first|apply Kd.V_alloc|apply Kd.V_drewN|apply Kd.V_drew));exact Kd.V_mono HL658_0.out (fun _ hk=>⟨⟨hk.1.1,⟨hk.1.2.1,hk.2⟩⟩,hk.1.2.2⟩)) hg hat);replace zc:=aM (Kd.R_after (ok:=(fun k_=>some k_≠(.slice Ao8 yb.length co8:Value).ownBlock)) (pR zc.out) hg hat);replace HB:=aM (hb);have HO668:=aM (ho);clear ze;clear ho hb hg hat))
 (try simp only [← yc])
 go_roundg k1
 case measure=>have:=HK1.out;omega
 case rel=>exact⟨(yb),(z0),(wrap64 (ya + 1)),(pF),H',⟨pO1 HK1⟩,⟨by(try simp only [yc]);(with_reducible repeat(first|apply rA|apply rN|apply rD));exact Kd.R_mono zf.out (fun _ hk=>hk.2)⟩,⟨by(try simp only [yc]);(with_reducible repeat(first|apply Kd.N_alloc|apply Kd.N_drewN|apply Kd.N_drew));exact Kd.N_mono zd.out (fun _ hk=>⟨hk.1.1,hk.2⟩)⟩,⟨by(try simp only [yc]);(with_reducible repeat(first|apply rA|apply rN|apply rD));exact Kd.R_mono HO668.out (fun _ hk=>hk.1)⟩,⟨qB HB⟩⟩
mutual
def fau.j0:Nat→List Int→Int→Bool→Option (List Int×List Int×Int)
 | 0,_,_,_=>none
 | k + 1,x0,x1,x16=>if x16=true then(some (([]:List Int),([]:List Int),10))else(if 0≤x1 then(if x1 < (x0.length:Int)then(fau.l0 k x0 x1 ([]:List Int) (rd x0 x1) 0)else(none))else(none))
def fau.l0:Nat→List Int→Int→List Int→Int→Int→Option (List Int×List Int×Int)
 | 0,_,_,_,_,_=>none
 | k + 1,x0,x1,x7,x20,x21=>if x21 < x20 then(if 0≤x1 then(if x1 < (x0.length:Int)then(if x7.length < 17592186044416 then(fau.l0 k x0 x1 (x7 ++ [wrap64 ((wrap64 ((rd x0 x1) - 1)) - x21)]) x20 (wrap64 (x21 + 1)))else(none))else(none))else(none))else((faz.f k x0 x1 x7).bind fun bt760=>(some (bt760.1,bt760.2.1,bt760.2.2)))
end
def fau.f (k:Nat) (l0:List Int) (a1:Int):Option (List Int×List Int×Int):=if a1 < 0 then(fau.j0 k l0 a1 true)else(fau.j0 k l0 a1 (decide (a1 ≥ (l0.length:Int))))
theorem fau.calls (k:Nat)(A0:Option Addr)(c0:Nat)(l0:List Int) (a1:Int)(r1:List Int)(r2:List Int) (r3:Int)(w:World)(hr0:Kd.C (Kd.int .i64) w A0 l0.length l0)(hc0:l0.length≤c0)(h:fau.f k l0 a1=some (r1,r2,r3)) :
  Calls Try.prog 87 #[.slice A0 l0.length c0,.int .i64 a1] w fun e w'=>∃ v0_ v1_:Value,e=.returned (.tuple #[v0_,v1_,.int .i64 r3])∧Kd.R (Kd.int .i64) 3 w' w.heap.size (fun k_=>some k_≠(v1_:Value).ownBlock) v0_ r1∧Kd.R (Kd.int .i64) 3 w' w.heap.size (fun k_=>some k_≠(v0_:Value).ownBlock) v1_ r2∧Below w.heap.size w w':=by
 have HR0:=aM hr0
 have HC0:=aM hc0
 clear hr0 hc0
 have HB:=aM (Below.refl w.heap.size w)
 have H:(if a1 < 0 then(fau.j0 k l0 a1 true)else(fau.j0 k l0 a1 (decide (a1 ≥ (l0.length:Int)))))=some (r1,r2,r3):=h
 clear h
 have HC3:=aM H
 clear H
 go_enter Try.func87,Try.ntmps87
 go_upto_region 1 with(fail)
 go_cut [16] (fun v16 wc=>∃ (kq:Nat) (yd:Bool),v16=.bool yd∧Aside0 (fau.j0 kq l0 a1 yd=some (r1,r2,r3))∧Aside0 (kq≤k)∧Aside0 (Below w.heap.size w wc))
 case first =>
  have H:=HC3.out
  clear HC3
  by_cases c4:a1 < 0
  ·rw [ip c4] at H
   have zb:=dT c4
   clear c4
   (first|rw [zb]|(simp only [i64_w,i32_w];rw [zb])|skip)
   have H':=aM H
   clear H
   go_wp2
   go_meet
   case rel=>exact⟨_,(true),(pF),H',⟨pO⟩,⟨qB HB⟩⟩
  rw [iN c4] at H
  have zb:=dF c4
  clear c4
  (first|rw [zb]|(simp only [i64_w,i32_w];rw [zb])|skip)
  have H':=aM H
  clear H
  go_wp2
  go_meet
  case rel=>exact⟨_,(decide (a1 ≥ (l0.length:Int))),(pF),H',⟨pO⟩,⟨qB HB⟩⟩
 clear HC3
 obtain⟨kq,yd,rfl,HA,HJ2,HB⟩:=hcut
 cases kq with
 | zero=>exact absurd HA.out (by simp [fau.j0])
 | succ kj2=>?_
 have H:=HA.out
 clear HA
 simp only [fau.j0] at H
 by_cases c5:yd=true
 ·subst c5
  rw [ip rfl] at H
  replace H:=oi3 H
  obtain⟨rfl,rfl,rfl⟩:=H
  go_wp2
  go_ret3
  exact⟨_,_,pE,pN,pN,qB HB⟩
 replace c5:=Bool.eq_false_iff.mpr c5
 subst c5
 rw [iN (show ¬ (false=true) by decide)] at H
 by_cases c6:0≤a1
 rotate_left
 ·rw [iN c6] at H
  cases H
 rw [ip c6] at H
 have yh:=dT c6
 clear c6
 by_cases c7:a1 < (l0.length:Int)
 rotate_left
 ·rw [iN c7] at H
  cases H
 rw [ip c7] at H
 have yi:=dT c7
 clear c7
 have H':=aM H
 clear H
 obtain⟨yf,⟨⟩,yb,yj,yk⟩:=zI HR0.out a1
 replace yb:=zW HB yb
 go_wp2
 go_loopg [7,21] kj2 (fun kq v7 v21 w'=>∃ (yc:List Int) (ya:Int),v21=.int .i64 ya∧Aside0 (fau.l0 kq l0 a1 yc (rd l0 a1) ya=some (r1,r2,r3))∧Aside0 (kq≤kj2)∧Aside0 (Kd.R (Kd.int .i64) 3 w' w.heap.size (fun _=>True) v7 yc)∧Aside0 (Below w.heap.size w w'))
 case atStart=>exact⟨(([]:List Int)),(0),(pF),H',⟨Nat.le_refl _⟩,⟨pN⟩,⟨qB HB⟩⟩
 clear H'
 try clear c5
 try clear yh
 try clear yi
 try clear yb
 try clear yj
 try clear yk
 obtain⟨yc,ya,rfl,HA,HK2,za,HB⟩:=hrel
 cases gk with
 | zero=>exact absurd HA.out (by simp [fau.l0])
 | succ k2=>?_
 have H:=HA.out
 clear HA
 simp only [fau.l0] at H
 by_cases c8:ya < (rd l0 a1)
 rotate_left
 ·rw [iN c8] at H
  have yl:=dF c8
  clear c8
  replace H:=oB H
  obtain⟨⟨t760,t761,t762⟩,zd,H⟩:=H
  try dsimp only at H
  have A13:=aM zd
  clear zd
  replace H:=oi3 H
  obtain⟨rfl,rfl,rfl⟩:=H
  obtain⟨ym,yn,yo⟩:=Kd.R_slice za.out
  subst yo
  go_wp2_with (first|((with_reducible refine gC 66 rfl ?_);refine gL 38 Try.func66 #[.slice (some yf) l0.length c0,.int .i64 a1,.slice ym yc.length yn] ?_;(with_reducible refine(faz.calls k2 _ _ l0 a1 _ _ yc t760 t761 t762 _ ?s1 HC0.out ?s3 ?s4 A13.out).mono ?_);(case s1=>exact sC HR0 HB);(case s3=>exact sR za);(case s4=>exact sL za);rintro e w15 ⟨v763,v765,rfl,ho0,ho1,hb⟩;refine⟨_,rfl,?_⟩;have HO764:=aM (Kd.R_lower (Kd.R_new' ho0 (Kd.R_lt (pR za.out))) (below_size (qB HB)));have HO766:=aM (Kd.R_lower (Kd.R_new' ho1 (Kd.R_lt (pR za.out))) (below_size (qB HB)));replace za:=eR2 za ho0 ho1 hb;replace HB:=bS (qB HB) hb;(try clear hb);(try clear hk);(try clear hi);(try clear ho0);(try clear ho1)))
  go_ret3
  exact⟨_,_,pE,by(with_reducible repeat(first|apply rA|apply rN|apply rD));exact Kd.R_mono HO764.out (fun _ hk=>hk.1),by(with_reducible repeat(first|apply rA|apply rN|apply rD));exact Kd.R_mono HO766.out (fun _ hk=>hk.1),qB HB⟩
 rw [ip c8] at H
 have yl:=dT c8
 clear c8
 by_cases c9:0≤a1
 rotate_left
 ·rw [iN c9] at H
  cases H
 rw [ip c9] at H
 have c9b0:=dT c9
 clear c9
 by_cases c10:a1 < (l0.length:Int)
 rotate_left
 ·rw [iN c10] at H
  cases H
 rw [ip c10] at H
 have c10b0:=dT c10
 clear c10
 by_cases c11:yc.length < 17592186044416
 rotate_left
 ·rw [iN c11] at H
  cases H
 rw [ip c11] at H
 have LMc11:=aM c11
 clear c11
 obtain⟨ze,zc⟩:∃ y_:List Int,y_=(yc ++ [wrap64 ((wrap64 ((rd l0 a1) - 1)) - ya)]):=⟨_,rfl⟩
 replace H:(fau.l0 k2 l0 a1 ze (rd l0 a1) (wrap64 (ya + 1)))=some (r1,r2,r3):=pH zc H
 have Ny757:=aM zc
 clear zc
 have H':=aM H
 clear H
 obtain⟨yg,yp,ye,p756,q756⟩:=zI HR0.out a1
 obtain rfl:yf=yg:=(by injection yp)
 replace ye:=zW HB ye
 go_wp2_with (first|((with_reducible refine gate_builtin (b:=.append) (xs:=#[.tmp 24,.tmp 32]) rfl ?_);(try (refine gate_guard (by rfl) ?_;dsimp only));at_builtin;refine Kd.R_append (Kd.int .i64) (w0:=w) w.heap.size rfl (.tmp 24) (.tmp 32) 22 3 (.int .i64 0) 8 rfl Try.underlying22 info3 rfl (by decide) (by omega) u7 yc (wrap64 ((wrap64 ((rd l0 a1) - 1)) - ya)) [.int .i64 (wrap64 ((wrap64 ((rd l0 a1) - 1)) - ya))] (fun _=>True) (fun _=>False) rfl rfl ?aP (fun _ hk=>hk.elim) ?aF ?aO ?aB ?aS ?aL ?_;(case aP=>exact rfl);(case aB=>exact(qB HB));(case aF=>exact(fun _ _=>trivial));(case aO=>exact(pR za.out));(case aS=>exact(below_size (qB HB)));(case aL=>have:=LMc11.out;omega);intro v758 w12 ho hb hg hat;rw [← Ny757.out] at ho;replace HB:=aM (hb);have HO759:=aM (ho);clear za;clear ho hb hg hat))
 go_roundg k2
 case measure=>have:=HJ2.out;have:=HK2.out;omega
 case rel=>exact⟨(ze),(wrap64 (ya + 1)),(pF),H',⟨pO2 HJ2 HK2⟩,⟨pR HO759.out⟩,⟨qB HB⟩⟩
def fai.l0:Nat→List Int→Int→Int→Int→Option (Bool)
 | 0,_,_,_,_=>none
 | k + 1,x0,x1,x7,x8=>if x8 < x7 then(if 0≤x8 then(if x8 < (x0.length:Int)then(if(rd x0 x8)=x1 then(some true)else(fai.l0 k x0 x1 x7 (wrap64 (x8 + 1))))else(none))else(none))else(some false)
def fai.f (k:Nat) (l0:List Int) (a1:Int):Option (Bool):=fai.l0 k l0 a1 (l0.length:Int) 0
theorem fai.calls (k:Nat)(A0:Option Addr)(c0:Nat)(l0:List Int) (a1:Int)(r:Bool)(w:World)(hr0:Kd.C (Kd.int .i64) w A0 l0.length l0)(hc0:l0.length≤c0)(h:fai.f k l0 a1=some r) :
  Calls Try.prog 98 #[.slice A0 l0.length c0,.int .i64 a1] w fun e w'=>e=.returned (.bool r)∧Drawn0 w w':=by
 have HR0:=aM hr0
 have HC0:=aM hc0
 clear hr0 hc0
 have H:(fai.l0 k l0 a1 (l0.length:Int) 0)=some r:=h
 clear h
 have H':=aM H
 clear H
 go_enter Try.func98,Try.ntmps98
 go_wp2
 go_loopg [8] k (fun kq v8 w'=>∃ (ya:Int),v8=.int .i64 ya∧Aside0 (fai.l0 kq l0 a1 (l0.length:Int) ya=some r)∧Aside0 (kq≤k)∧Drawn0 w w')
 case atStart=>exact⟨(0),(pF),H',⟨Nat.le_refl _⟩,by repeat(first|exact Drawn0.refl _|apply Drawn0.step)⟩
 clear H'
 obtain⟨ya,rfl,HA,HK1,⟨m1,rfl⟩⟩:=hrel
 cases gk with
 | zero=>exact absurd HA.out (by simp [fai.l0])
 | succ k1=>?_
 have H:=HA.out
 clear HA
 simp only [fai.l0] at H
 by_cases c3:ya < (l0.length:Int)
 rotate_left
 ·rw [iN c3] at H
  have yd:=dF c3
  clear c3
  obtain rfl:=Option.some.inj H
  go_wp2
  go_ret
  exact⟨pF,by repeat(first|exact Drawn0.refl _|apply Drawn0.step)⟩
 rw [ip c3] at H
 have yd:=dT c3
 clear c3
 by_cases c4:0≤ya
 rotate_left
 ·rw [iN c4] at H
  cases H
 rw [ip c4] at H
 have c4b0:=dT c4
 clear c4
 by_cases c5:ya < (l0.length:Int)
 rotate_left
 ·rw [iN c5] at H
  cases H
 rw [ip c5] at H
 have c5b0:=dT c5
 clear c5
 by_cases c6:(rd l0 ya)=a1
 ·rw [ip c6] at H
  have ye:=bT c6
  have yf:=nF c6
  clear c6
  obtain rfl:=Option.some.inj H
  obtain⟨yc,⟨⟩,yb,yg,yh⟩:=zI HR0.out ya
  go_wp2
  go_ret
  exact⟨pF,by repeat(first|exact Drawn0.refl _|apply Drawn0.step)⟩
 rw [iN c6] at H
 have ye:=bF c6
 have yf:=nT c6
 have H':=aM H
 clear H
 obtain⟨yc,⟨⟩,yb,yg,yh⟩:=zI HR0.out ya
 go_wp2
 go_roundg k1
 case measure=>have:=HK1.out;omega
 case rel=>exact⟨(wrap64 (ya + 1)),(pF),H',⟨pO1 HK1⟩,by repeat(first|exact Drawn0.refl _|apply Drawn0.step)⟩
mutual
def faf.j0:Nat→Int→List Int→Bool→Option (List Bool×Int)
 | 0,_,_,_=>none
 | k + 1,x0,x1,x14=>if x14=true then(some (([]:List Bool),9))else(faf.l0 k x0 x1 (x1.length:Int) 0)
def faf.l0:Nat→Int→List Int→Int→Int→Option (List Bool×Int)
 | 0,_,_,_,_=>none
 | k + 1,x0,x1,x16,x17=>if x17 < x16 then(if 0≤x17 then(if x17 < (x1.length:Int)then(if(rd x1 x17) < 0 then(some (([]:List Bool),10))else(if(rd x1 x17) ≥ x0 then(some (([]:List Bool),10))else(if x17≤(x1.length:Int)then((fai.f k (x1.take (x17:Int).toNat) (rd x1 x17)).bind fun zl=>(if zl=true then(some (([]:List Bool),10))else(faf.l0 k x0 x1 x16 (wrap64 (x17 + 1)))))else(none))))else(none))else(none))else(faf.l1 k x1 ([]:List Bool) x0 0)
def faf.l1:Nat→List Int→List Bool→Int→Int→Option (List Bool×Int)
 | 0,_,_,_,_=>none
 | k + 1,x1,x7,x44,x45=>if x45 < x44 then(if(x1.length:Int)=0 then(if x7.length < 140737488355328 then(faf.l1 k x1 (x7 ++ [true]) x44 (wrap64 (x45 + 1)))else(none))else((fai.f k x1 x45).bind fun zb=>(if x7.length < 140737488355328 then(faf.l1 k x1 (x7 ++ [zb]) x44 (wrap64 (x45 + 1)))else(none))))else(some (x7,0))
end
def faf.f (k:Nat) (a0:Int) (l1:List Int):Option (List Bool×Int):=if a0 < 0 then(faf.j0 k a0 l1 true)else(faf.j0 k a0 l1 (decide (a0 > 6)))
theorem faf.calls (k:Nat) (a0:Int)(A1:Option Addr)(c1:Nat)(l1:List Int)(r1:List Bool) (r2:Int)(w:World)(hr1:Kd.C (Kd.int .i64) w A1 l1.length l1)(hc1:l1.length≤c1)(h:faf.f k a0 l1=some (r1,r2)) :
  Calls Try.prog 93 #[.int .i64 a0,.slice A1 l1.length c1] w fun e w'=>∃ v0_:Value,e=.returned (.tuple #[v0_,.int .i64 r2])∧Kd.R Kd.bool 4 w' w.heap.size (fun _=>True) v0_ r1∧Below w.heap.size w w':=by
 have HR1:=aM hr1
 have HC1:=aM hc1
 clear hr1 hc1
 have HB:=aM (Below.refl w.heap.size w)
 have H:(if a0 < 0 then(faf.j0 k a0 l1 true)else(faf.j0 k a0 l1 (decide (a0 > 6))))=some (r1,r2):=h
 clear h
 have HC3:=aM H
 clear H
 go_enter Try.func93,Try.ntmps93
 go_upto_region 1 with(fail)
 repeat(go_quiet (fail);go_upto_region 1 with(fail))
 go_cut [14] (fun v14 wc=>∃ (kq:Nat) (yi:Bool),v14=.bool yi∧Aside0 (faf.j0 kq a0 l1 yi=some (r1,r2))∧Aside0 (kq≤k)∧Aside0 (Below w.heap.size w wc))
 case first =>
  have H:=HC3.out
  clear HC3
  by_cases c4:a0 < 0
  ·rw [ip c4] at H
   have zc:=dT c4
   clear c4
   (first|rw [zc]|(simp only [i64_w,i32_w];rw [zc])|skip)
   have H':=aM H
   clear H
   go_wp2
   repeat(go_quiet (fail);try go_wp2)
   go_meet
   case rel=>exact⟨_,(true),(pF),H',⟨pO⟩,⟨qB HB⟩⟩
  rw [iN c4] at H
  have zc:=dF c4
  clear c4
  (first|rw [zc]|(simp only [i64_w,i32_w];rw [zc])|skip)
  have H':=aM H
  clear H
  go_wp2
  repeat(go_quiet (fail);try go_wp2)
  go_meet
  case rel=>exact⟨_,(decide (a0 > 6)),(pF),H',⟨pO⟩,⟨qB HB⟩⟩
 clear HC3
 try clear c1
 obtain⟨kq,yi,rfl,HA,HJ2,HB⟩:=hcut
 cases kq with
 | zero=>exact absurd HA.out (by simp [faf.j0])
 | succ kj2=>?_
 have H:=HA.out
 clear HA
 simp only [faf.j0] at H
 by_cases c5:yi=true
 ·subst c5
  rw [ip rfl] at H
  replace H:=oi2 H
  obtain⟨rfl,rfl⟩:=H
  go_wp2
  repeat(go_quiet (fail);try go_wp2)
  go_ret2
  exact⟨_,pE,pN,qB HB⟩
 replace c5:=Bool.eq_false_iff.mpr c5
 subst c5
 rw [iN (show ¬ (false=true) by decide)] at H
 have H':=aM H
 clear H
 go_wp2
 repeat(go_quiet (fail);try go_wp2)
 go_loopg [17] kj2 (fun kq v17 w'=>∃ (ya:Int),v17=.int .i64 ya∧Aside0 (faf.l0 kq a0 l1 (l1.length:Int) ya=some (r1,r2))∧Aside0 (kq≤kj2)∧Aside0 (Below w.heap.size w w'))
 case atStart=>exact⟨(0),(pF),H',⟨Nat.le_refl _⟩,⟨qB HB⟩⟩
 clear H'
 try clear c5
 obtain⟨ya,rfl,HA,HK2,HB⟩:=hrel
 cases gk with
 | zero=>exact absurd HA.out (by simp [faf.l0])
 | succ k2=>?_
 have H:=HA.out
 clear HA
 simp only [faf.l0] at H
 by_cases c6:ya < (l1.length:Int)
 rotate_left
 ·rw [iN c6] at H
  have zm:=dF c6
  clear c6
  have H':=aM H
  clear H
  go_wp2
  repeat(go_quiet (fail);try go_wp2)
  go_loopg [7,45] k2 (fun kq v7 v45 w'=>∃ (yg:List Bool) (yd:Int),v45=.int .i64 yd∧Aside0 (faf.l1 kq l1 yg a0 yd=some (r1,r2))∧Aside0 (kq≤k2)∧Aside0 (Kd.R Kd.bool 4 w' w.heap.size (fun _=>True) v7 yg)∧Aside0 (Below w.heap.size w w'))
  case atStart=>exact⟨(([]:List Bool)),(0),(pF),H',⟨Nat.le_refl _⟩,⟨pN⟩,⟨qB HB⟩⟩
  clear H'
  try clear zm
  obtain⟨yg,yd,rfl,HA,HK3,za,HB⟩:=hrel
  cases gk with
  | zero=>exact absurd HA.out (by simp [faf.l1])
  | succ k3=>?_
  have H:=HA.out
  clear HA
  simp only [faf.l1] at H
  by_cases c17:yd < a0
  rotate_left
  ·rw [iN c17] at H
   have yq:=dF c17
   clear c17
   replace H:=oi2 H
   obtain⟨rfl,rfl⟩:=H
   go_wp2
   repeat(go_quiet (fail);try go_wp2)
   go_ret2
   exact⟨_,pE,pR za.out,qB HB⟩
  rw [ip c17] at H
  have yq:=dT c17
  clear c17
  by_cases c18:(l1.length:Int)=0
  ·rw [ip c18] at H
   have yr:=bT c18
   have ys:=nF c18
   clear c18
   by_cases c19:yg.length < 140737488355328
   rotate_left
   ·rw [iN c19] at H
    cases H
   rw [ip c19] at H
   have zd:=aM c19
   clear c19
   obtain⟨zn,ze⟩:∃ y_:List Bool,y_=(yg ++ [true]):=⟨_,rfl⟩
   replace H:(faf.l1 k3 l1 zn a0 (wrap64 (yd + 1)))=some (r1,r2):=pH ze H
   have zf:=aM ze
   clear ze
   have H':=aM H
   clear H
   go_wp2_with (first|((with_reducible refine gate_builtin (b:=.append) (xs:=#[.tmp 48,.tmp 57]) rfl ?_);at_builtin;refine Kd.R_append Kd.bool (w0:=w) w.heap.size rfl (.tmp 48) (.tmp 57) 93 4 (.bool false) 1 rfl Try.underlying93 info4 rfl (by decide) (by omega) u7 yg true [.bool true] (fun _=>True) (fun _=>False) rfl rfl ?aP (fun _ hk=>hk.elim) ?aF ?aO ?aB ?aS ?aL ?_;(case aP=>exact rfl);(case aB=>exact(qB HB));(case aF=>exact(fun _ _=>trivial));(case aO=>exact(pR za.out));(case aS=>exact(below_size (qB HB)));(case aL=>have:=zd.out;omega);intro zo w20 ho hb hg hat;rw [← zf.out] at ho;replace HB:=aM (hb);have zg:=aM (ho);clear za;clear ho hb hg hat))
   repeat(go_quiet (first|((with_reducible refine gate_builtin (b:=.append) (xs:=#[.tmp 48,.tmp 57]) rfl ?_);at_builtin;refine Kd.R_append Kd.bool (w0:=w) w.heap.size rfl (.tmp 48) (.tmp 57) 93 4 (.bool false) 1 rfl Try.underlying93 info4 rfl (by decide) (by omega) u7 yg true [.bool true] (fun _=>True) (fun _=>False) rfl rfl ?aP (fun _ hk=>hk.elim) ?aF ?aO ?aB ?aS ?aL ?_;(case aP=>exact rfl);(case aB=>exact(qB HB));(case aF=>exact(fun _ _=>trivial));(case aO=>exact(pR za.out));(case aS=>exact(below_size (qB HB)));(case aL=>have:=zd.out;omega);intro zo w20 ho hb hg hat;rw [← zf.out] at ho;replace HB:=aM (hb);have zg:=aM (ho);clear za;clear ho hb hg hat));try go_wp2_with (first|((with_reducible refine gate_builtin (b:=.append) (xs:=#[.tmp 48,.tmp 57]) rfl ?_);at_builtin;refine Kd.R_append Kd.bool (w0:=w) w.heap.size rfl (.tmp 48) (.tmp 57) 93 4 (.bool false) 1 rfl Try.underlying93 info4 rfl (by decide) (by omega) u7 yg true [.bool true] (fun _=>True) (fun _=>False) rfl rfl ?aP (fun _ hk=>hk.elim) ?aF ?aO ?aB ?aS ?aL ?_;(case aP=>exact rfl);(case aB=>exact(qB HB));(case aF=>exact(fun _ _=>trivial));(case aO=>exact(pR za.out));(case aS=>exact(below_size (qB HB)));(case aL=>have:=zd.out;omega);intro zo w20 ho hb hg hat;rw [← zf.out] at ho;replace HB:=aM (hb);have zg:=aM (ho);clear za;clear ho hb hg hat)))
   go_roundg k3
   case measure=>have:=HJ2.out;have:=HK2.out;have:=HK3.out;omega
   case rel=>exact⟨(zn),(wrap64 (yd + 1)),(pF),H',⟨by have:=HJ2.out;have:=HK2.out;have:=HK3.out;omega⟩,⟨pR zg.out⟩,⟨qB HB⟩⟩
  rw [iN c18] at H
  have yr:=bF c18
  have ys:=nT c18
  have c18b2:¬ (l1=[]):=fun h_=>c18 (by rw [h_];rfl)
  replace H:=oB H
  obtain⟨zb,zp,H⟩:=H
  try dsimp only at H
  have A21:=aM zp
  clear zp
  by_cases c22:yg.length < 140737488355328
  rotate_left
  ·rw [iN c22] at H
   cases H
  rw [ip c22] at H
  have zh:=aM c22
  clear c22
  obtain⟨zq,zi⟩:∃ y_:List Bool,y_=(yg ++ [zb]):=⟨_,rfl⟩
  replace H:(faf.l1 k3 l1 zq a0 (wrap64 (yd + 1)))=some (r1,r2):=pH zi H
  have zj:=aM zi
  clear zi
  have H':=aM H
  clear H
  go_wp2_with (first|(go_at_call 98;(with_reducible refine(fai.calls k3 _ _ l1 yd zb _ ?s1 HC1.out A21.out).mono ?_);(case s1=>exact sC HR1 HB);rintro e w' ⟨rfl,⟨nd,rfl⟩⟩;(try first|exact⟨rfl,_,World.drewN_drewN _ _ _⟩|exact⟨rfl,_,Eq.trans (World.drewN_drewN _ _ _) (congrArg (World.drewN _) (Nat.add_assoc _ _ _))⟩))|((with_reducible refine gate_builtin (b:=.append) (xs:=#[.tmp 48,.tmp 57]) rfl ?_);at_builtin;refine Kd.R_append Kd.bool (w0:=w) w.heap.size rfl (.tmp 48) (.tmp 57) 93 4 (.bool false) 1 rfl Try.underlying93 info4 rfl (by decide) (by omega) u7 yg zb [.bool zb] (fun _=>True) (fun _=>False) rfl rfl ?aP (fun _ hk=>hk.elim) ?aF ?aO ?aB ?aS ?aL ?_;(case aP=>exact rfl);(case aB=>exact(qB HB));(case aF=>exact(fun _ _=>trivial));(case aO=>exact(pR za.out));(case aS=>exact(below_size (qB HB)));(case aL=>have:=zh.out;omega);intro zr w23 ho hb hg hat;rw [← zj.out] at ho;replace HB:=aM (hb);have zk:=aM (ho);clear za;clear ho hb hg hat))
  repeat(go_quiet (first|(go_at_call 98;(with_reducible refine(fai.calls k3 _ _ l1 yd zb _ ?s1 HC1.out A21.out).mono ?_);(case s1=>exact sC HR1 HB);rintro e w' ⟨rfl,⟨nd,rfl⟩⟩;(try first|exact⟨rfl,_,World.drewN_drewN _ _ _⟩|exact⟨rfl,_,Eq.trans (World.drewN_drewN _ _ _) (congrArg (World.drewN _) (Nat.add_assoc _ _ _))⟩))|((with_reducible refine gate_builtin (b:=.append) (xs:=#[.tmp 48,.tmp 57]) rfl ?_);at_builtin;refine Kd.R_append Kd.bool (w0:=w) w.heap.size rfl (.tmp 48) (.tmp 57) 93 4 (.bool false) 1 rfl Try.underlying93 info4 rfl (by decide) (by omega) u7 yg zb [.bool zb] (fun _=>True) (fun _=>False) rfl rfl ?aP (fun _ hk=>hk.elim) ?aF ?aO ?aB ?aS ?aL ?_;(case aP=>exact rfl);(case aB=>exact(qB HB));(case aF=>exact(fun _ _=>trivial));(case aO=>exact(pR za.out));(case aS=>exact(below_size (qB HB)));(case aL=>have:=zh.out;omega);intro zr w23 ho hb hg hat;rw [← zj.out] at ho;replace HB:=aM (hb);have zk:=aM (ho);clear za;clear ho hb hg hat));try go_wp2_with (first|(go_at_call 98;(with_reducible refine(fai.calls k3 _ _ l1 yd zb _ ?s1 HC1.out A21.out).mono ?_);(case s1=>exact sC HR1 HB);rintro e w' ⟨rfl,⟨nd,rfl⟩⟩;(try first|exact⟨rfl,_,World.drewN_drewN _ _ _⟩|exact⟨rfl,_,Eq.trans (World.drewN_drewN _ _ _) (congrArg (World.drewN _) (Nat.add_assoc _ _ _))⟩))|((with_reducible refine gate_builtin (b:=.append) (xs:=#[.tmp 48,.tmp 57]) rfl ?_);at_builtin;refine Kd.R_append Kd.bool (w0:=w) w.heap.size rfl (.tmp 48) (.tmp 57) 93 4 (.bool false) 1 rfl Try.underlying93 info4 rfl (by decide) (by omega) u7 yg zb [.bool zb] (fun _=>True) (fun _=>False) rfl rfl ?aP (fun _ hk=>hk.elim) ?aF ?aO ?aB ?aS ?aL ?_;(case aP=>exact rfl);(case aB=>exact(qB HB));(case aF=>exact(fun _ _=>trivial));(case aO=>exact(pR za.out));(case aS=>exact(below_size (qB HB)));(case aL=>have:=zh.out;omega);intro zr w23 ho hb hg hat;rw [← zj.out] at ho;replace HB:=aM (hb);have zk:=aM (ho);clear za;clear ho hb hg hat)))
  go_roundg k3
  case measure=>have:=HJ2.out;have:=HK2.out;have:=HK3.out;omega
  case rel=>exact⟨(zq),(wrap64 (yd + 1)),(pF),H',⟨by have:=HJ2.out;have:=HK2.out;have:=HK3.out;omega⟩,⟨pR zk.out⟩,⟨qB HB⟩⟩
 rw [ip c6] at H
 have zm:=dT c6
 clear c6
 by_cases c7:0≤ya
 rotate_left
 ·rw [iN c7] at H
  cases H
 rw [ip c7] at H
 have c7b0:=dT c7
 clear c7
 by_cases c8:ya < (l1.length:Int)
 rotate_left
 ·rw [iN c8] at H
  cases H
 rw [ip c8] at H
 have c8b0:=dT c8
 clear c8
 by_cases c9:(rd l1 ya) < 0
 ·rw [ip c9] at H
  have yw:=dT c9
  clear c9
  replace H:=oi2 H
  obtain⟨rfl,rfl⟩:=H
  obtain⟨ye,⟨⟩,yb,yn,yo⟩:=zI HR1.out ya
  replace yb:=zW HB yb
  go_wp2
  repeat(go_quiet (fail);try go_wp2)
  go_ret2
  exact⟨_,pE,pN,qB HB⟩
 rw [iN c9] at H
 have yw:=dF c9
 clear c9
 by_cases c10:(rd l1 ya) ≥ a0
 ·rw [ip c10] at H
  have yt:decide (a0≤(rd l1 ya))=true:=decide_eq_true c10
  clear c10
  replace H:=oi2 H
  obtain⟨rfl,rfl⟩:=H
  obtain⟨ye,⟨⟩,yb,yn,yo⟩:=zI HR1.out ya
  replace yb:=zW HB yb
  obtain⟨yh,yj,yc,yu,yv⟩:=zI HR1.out ya
  obtain rfl:ye=yh:=(by injection yj)
  replace yc:=zW HB yc
  go_wp2
  repeat(go_quiet (fail);try go_wp2)
  go_ret2
  exact⟨_,pE,pN,qB HB⟩
 rw [iN c10] at H
 have yt:decide (a0≤(rd l1 ya))=false:=decide_eq_false c10
 clear c10
 have c11b0:=eq_true (of_decide_eq_true pD:0≤ya)
 by_cases c12:ya≤(l1.length:Int)
 rotate_left
 ·rw [iN c12] at H
  cases H
 rw [ip c12] at H
 have c12b0:=eq_true c12
 have c12b1:=dT c12
 clear c12
 replace H:=oB H
 obtain⟨zl,zs,H⟩:=H
 try dsimp only at H
 have A13:=aM zs
 clear zs
 by_cases c14:zl=true
 ·subst c14
  rw [ip rfl] at H
  replace H:=oi2 H
  obtain⟨rfl,rfl⟩:=H
  obtain⟨ye,⟨⟩,yb,yn,yo⟩:=zI HR1.out ya
  replace yb:=zW HB yb
  obtain⟨yh,yj,yc,yu,yv⟩:=zI HR1.out ya
  obtain rfl:ye=yh:=(by injection yj)
  replace yc:=zW HB yc
  obtain⟨i015,yl,_,hsz15,_⟩:=info_parts info3
  obtain⟨hcut15,hA15,hC15⟩:=print_take_of (P:=Try.prog) (Value.int .i64) 0 22 3 .i64 Try.underlying22 yl hsz15 (some ye) c1 l1 ya (of_decide_eq_true pD) (of_decide_eq_true pD) HC1.out
  have HTK15:Aside0 ((ya:Int).toNat=(l1.take (ya:Int).toNat).length):=⟨by have h1_:(ya:Int)≤(l1.length:Int):=oD;have h0_:0≤(ya:Int):=oD;rw [List.length_take];omega⟩
  have HR610:=aM (Kd.C_of_reads (h1:=fun _=>rfl) (hA15 _ (Kd.reads_of_C HR1.out)))
  have HC610:=aM hC15
  clear hA15 hC15 yl hsz15
  obtain⟨yk,yp,yf,yx,yy⟩:=zI HR1.out ya
  obtain rfl:ye=yk:=(by injection yp)
  replace yf:=zW HB yf
  go_wp2_with (first|(go_at_call 98;(first|(with_reducible refine(fai.calls k2 _ _ (l1.take (ya:Int).toNat) (rd l1 ya) true _ ?s1 ?s2 A13.out).mono ?_)|(rw [HTK15.out];(with_reducible refine(fai.calls k2 _ _ (l1.take (ya:Int).toNat) (rd l1 ya) true _ ?s1 ?s2 A13.out).mono ?_)));(case s1=>exact sC HR610 HB);(case s2=>exact HC610.out);rintro e w' ⟨rfl,⟨nd,rfl⟩⟩;(try first|exact⟨rfl,_,World.drewN_drewN _ _ _⟩|exact⟨rfl,_,Eq.trans (World.drewN_drewN _ _ _) (congrArg (World.drewN _) (Nat.add_assoc _ _ _))⟩)))
  repeat(go_quiet (first|(go_at_call 98;(first|(with_reducible refine(fai.calls k2 _ _ (l1.take (ya:Int).toNat) (rd l1 ya) true _ ?s1 ?s2 A13.out).mono ?_)|(rw [HTK15.out];(with_reducible refine(fai.calls k2 _ _ (l1.take (ya:Int).toNat) (rd l1 ya) true _ ?s1 ?s2 A13.out).mono ?_)));(case s1=>exact sC HR610 HB);(case s2=>exact HC610.out);rintro e w' ⟨rfl,⟨nd,rfl⟩⟩;(try first|exact⟨rfl,_,World.drewN_drewN _ _ _⟩|exact⟨rfl,_,Eq.trans (World.drewN_drewN _ _ _) (congrArg (World.drewN _) (Nat.add_assoc _ _ _))⟩)));try go_wp2_with (first|(go_at_call 98;(first|(with_reducible refine(fai.calls k2 _ _ (l1.take (ya:Int).toNat) (rd l1 ya) true _ ?s1 ?s2 A13.out).mono ?_)|(rw [HTK15.out];(with_reducible refine(fai.calls k2 _ _ (l1.take (ya:Int).toNat) (rd l1 ya) true _ ?s1 ?s2 A13.out).mono ?_)));(case s1=>exact sC HR610 HB);(case s2=>exact HC610.out);rintro e w' ⟨rfl,⟨nd,rfl⟩⟩;(try first|exact⟨rfl,_,World.drewN_drewN _ _ _⟩|exact⟨rfl,_,Eq.trans (World.drewN_drewN _ _ _) (congrArg (World.drewN _) (Nat.add_assoc _ _ _))⟩))))
  go_ret2
  exact⟨_,pE,pN,qB HB⟩
 replace c14:=Bool.eq_false_iff.mpr c14
 subst c14
 rw [iN (show ¬ (false=true) by decide)] at H
 have H':=aM H
 clear H
 obtain⟨ye,⟨⟩,yb,yn,yo⟩:=zI HR1.out ya
 replace yb:=zW HB yb
 obtain⟨yh,yj,yc,yu,yv⟩:=zI HR1.out ya
 obtain rfl:ye=yh:=(by injection yj)
 replace yc:=zW HB yc
 obtain⟨i016,ym,_,hsz16,_⟩:=info_parts info3
 obtain⟨hcut16,hA16,hC16⟩:=print_take_of (P:=Try.prog) (Value.int .i64) 0 22 3 .i64 Try.underlying22 ym hsz16 (some ye) c1 l1 ya (of_decide_eq_true pD) (of_decide_eq_true pD) HC1.out
 have HTK16:Aside0 ((ya:Int).toNat=(l1.take (ya:Int).toNat).length):=⟨by have h1_:(ya:Int)≤(l1.length:Int):=oD;have h0_:0≤(ya:Int):=oD;rw [List.length_take];omega⟩
 have HR610:=aM (Kd.C_of_reads (h1:=fun _=>rfl) (hA16 _ (Kd.reads_of_C HR1.out)))
 have HC610:=aM hC16
 clear hA16 hC16 ym hsz16
 obtain⟨yk,yp,yf,yx,yy⟩:=zI HR1.out ya
 obtain rfl:ye=yk:=(by injection yp)
 replace yf:=zW HB yf
 go_wp2_with (first|(go_at_call 98;(first|(with_reducible refine(fai.calls k2 _ _ (l1.take (ya:Int).toNat) (rd l1 ya) false _ ?s1 ?s2 A13.out).mono ?_)|(rw [HTK16.out];(with_reducible refine(fai.calls k2 _ _ (l1.take (ya:Int).toNat) (rd l1 ya) false _ ?s1 ?s2 A13.out).mono ?_)));(case s1=>exact sC HR610 HB);(case s2=>exact HC610.out);rintro e w' ⟨rfl,⟨nd,rfl⟩⟩;(try first|exact⟨rfl,_,World.drewN_drewN _ _ _⟩|exact⟨rfl,_,Eq.trans (World.drewN_drewN _ _ _) (congrArg (World.drewN _) (Nat.add_assoc _ _ _))⟩)))
 repeat(go_quiet (first|(go_at_call 98;(first|(with_reducible refine(fai.calls k2 _ _ (l1.take (ya:Int).toNat) (rd l1 ya) false _ ?s1 ?s2 A13.out).mono ?_)|(rw [HTK16.out];(with_reducible refine(fai.calls k2 _ _ (l1.take (ya:Int).toNat) (rd l1 ya) false _ ?s1 ?s2 A13.out).mono ?_)));(case s1=>exact sC HR610 HB);(case s2=>exact HC610.out);rintro e w' ⟨rfl,⟨nd,rfl⟩⟩;(try first|exact⟨rfl,_,World.drewN_drewN _ _ _⟩|exact⟨rfl,_,Eq.trans (World.drewN_drewN _ _ _) (congrArg (World.drewN _) (Nat.add_assoc _ _ _))⟩)));try go_wp2_with (first|(go_at_call 98;(first|(with_reducible refine(fai.calls k2 _ _ (l1.take (ya:Int).toNat) (rd l1 ya) false _ ?s1 ?s2 A13.out).mono ?_)|(rw [HTK16.out];(with_reducible refine(fai.calls k2 _ _ (l1.take (ya:Int).toNat) (rd l1 ya) false _ ?s1 ?s2 A13.out).mono ?_)));(case s1=>exact sC HR610 HB);(case s2=>exact HC610.out);rintro e w' ⟨rfl,⟨nd,rfl⟩⟩;(try first|exact⟨rfl,_,World.drewN_drewN _ _ _⟩|exact⟨rfl,_,Eq.trans (World.drewN_drewN _ _ _) (congrArg (World.drewN _) (Nat.add_assoc _ _ _))⟩))))
 go_roundg k2
 case measure=>have:=HJ2.out;have:=HK2.out;omega
 case rel=>exact⟨(wrap64 (ya + 1)),(pF),H',⟨pO2 HJ2 HK2⟩,⟨qB HB⟩⟩
mutual
def faj.j0:Nat→List Int→List Int→Bool→Option (List Int×Int)
 | 0,_,_,_=>none
 | k + 1,x0,x1,x31=>if x31=true then(some (([]:List Int),10))else(faj.l0 k x0 x1 ([]:List Int) (x1.length:Int) 0)
def faj.l0:Nat→List Int→List Int→List Int→Int→Int→Option (List Int×Int)
 | 0,_,_,_,_,_=>none
 | k + 1,x0,x1,x9,x33,x34=>if x34 < x33 then(if 0≤x34 then(if x34 < (x1.length:Int)then(if 0≤(rd x1 x34)then(if(rd x1 x34) < (x0.length:Int)then(if x9.length < 17592186044416 then(faj.l0 k x0 x1 (x9 ++ [rd x0 (rd x1 x34)]) x33 (wrap64 (x34 + 1)))else(none))else(none))else(none))else(none))else(none))else(some (x9,0))
end
def faj.f (k:Nat) (l0:List Int) (l1:List Int):Option (List Int×Int):=(fag.f k l0).bind fun za=>(if za=0 then((faf.f k (l0.length:Int) l1).bind fun bt621=>(if bt621.2=0 then(faj.j0 k l0 l1 ((l1.length:Int) != (l0.length:Int)))else(faj.j0 k l0 l1 true)))else(some (([]:List Int),za)))
theorem faj.calls (k:Nat)(A0:Option Addr)(c0:Nat)(l0:List Int)(A1:Option Addr)(c1:Nat)(l1:List Int)(r1:List Int) (r2:Int)(w:World)(hr0:Kd.C (Kd.int .i64) w A0 l0.length l0)(hc0:l0.length≤c0)(hr1:Kd.C (Kd.int .i64) w A1 l1.length l1)(hc1:l1.length≤c1)(h:faj.f k l0 l1=some (r1,r2)) :
  Calls Try.prog 94 #[.slice A0 l0.length c0,.slice A1 l1.length c1] w fun e w'=>∃ v0_:Value,e=.returned (.tuple #[v0_,.int .i64 r2])∧Kd.R (Kd.int .i64) 3 w' w.heap.size (fun _=>True) v0_ r1∧Below w.heap.size w w':=by
 have HR0:=aM hr0
 have HC0:=aM hc0
 clear hr0 hc0
 have HR1:=aM hr1
 have HC1:=aM hc1
 clear hr1 hc1
 have HB:=aM (Below.refl w.heap.size w)
 have H:((fag.f k l0).bind fun za=>(if za=0 then((faf.f k (l0.length:Int) l1).bind fun bt621=>(if bt621.2=0 then(faj.j0 k l0 l1 ((l1.length:Int) != (l0.length:Int)))else(faj.j0 k l0 l1 true)))else(some (([]:List Int),za))))=some (r1,r2):=h
 clear h
 replace H:=oB H
 obtain⟨za,A30,H⟩:=H
 try dsimp only at H
 have A3:=aM A30
 clear A30
 by_cases c4:za=0
 rotate_left
 ·rw [iN c4] at H
  have zf:=bF c4
  have zg:=nT c4
  replace H:=oi2 H
  obtain⟨rfl,rfl⟩:=H
  go_enter Try.func94,Try.ntmps94
  go_wp2_with (first|((with_reducible refine gC 30 rfl ?_);refine gL 12 Try.func30 #[.slice A0 l0.length c0] ?_;(with_reducible refine(fag.calls k _ _ l0 za _ ?s1 HC0.out A3.out).mono ?_);(case s1=>exact pC HR0.out);rintro e w' ⟨rfl,⟨nd,rfl⟩⟩;refine⟨_,rfl,?_⟩))
  go_ret2
  exact⟨_,pE,pN,qB HB⟩
 rw [ip c4] at H
 have zf:=bT c4
 have zg:=nF c4
 clear c4
 replace H:=oB H
 obtain⟨⟨t621,zb⟩,A50,H⟩:=H
 try dsimp only at H
 have A5:=aM A50
 clear A50
 have HC6:=aM H
 clear H
 go_enter Try.func94,Try.ntmps94
 go_upto_region 5 with(first|((with_reducible refine gC 30 rfl ?_);refine gL 12 Try.func30 #[.slice A0 l0.length c0] ?_;(with_reducible refine(fag.calls k _ _ l0 za _ ?s1 HC0.out A3.out).mono ?_);(case s1=>exact pC HR0.out);rintro e w' ⟨rfl,⟨nd,rfl⟩⟩;refine⟨_,rfl,?_⟩)|((with_reducible refine gC 93 rfl ?_);refine gL 20 Try.func93 #[.int .i64 (l0.length:Int),.slice A1 l1.length c1] ?_;(with_reducible refine(faf.calls k (l0.length:Int) _ _ l1 t621 zb _ ?s1 HC1.out A5.out).mono ?_);(case s1=>exact pC HR1.out);rintro e w7 ⟨v623,rfl,ho0,hb⟩;refine⟨_,rfl,?_⟩;have HO624:=aM (Kd.R_lower ho0 (below_size (qB HB)));replace HB:=bS (qB HB) hb;(try clear hb);(try clear hk);(try clear hi);(try clear ho0)))
 (try simp only [Act.put,sP])
 go_cut [31] (fun v31 wc=>∃ (kq:Nat) (yb:Bool),v31=.bool yb∧Aside0 (faj.j0 kq l0 l1 yb=some (r1,r2))∧Aside0 (kq≤k)∧Aside0 (Below w.heap.size w wc))
 case first =>
  have H:=HC6.out
  clear HC6
  by_cases c8:zb=0
  rotate_left
  ·rw [iN c8] at H
   have zc:=bF c8
   have yg:=nT c8
   (first|rw [zc]|(simp only [i64_w,i32_w];rw [zc])|skip)
   have H':=aM H
   clear H
   go_wp2
   go_meet
   case rel=>exact⟨_,(true),(pF),H',⟨pO⟩,⟨qB HB⟩⟩
  rw [ip c8] at H
  have zc:=bT c8
  have yg:=nF c8
  clear c8
  (first|rw [zc]|(simp only [i64_w,i32_w];rw [zc])|skip)
  have H':=aM H
  clear H
  go_wp2
  go_meet
  case rel=>exact⟨_,(((l1.length:Int) != (l0.length:Int))),(pF),H',⟨pO⟩,⟨qB HB⟩⟩
 clear HC6
 try clear c1
 try clear zf
 try clear zg
 obtain⟨kq,yb,rfl,HA,HJ5,HB⟩:=hcut
 cases kq with
 | zero=>exact absurd HA.out (by simp [faj.j0])
 | succ kj5=>?_
 have H:=HA.out
 clear HA
 simp only [faj.j0] at H
 by_cases c9:yb=true
 ·subst c9
  rw [ip rfl] at H
  replace H:=oi2 H
  obtain⟨rfl,rfl⟩:=H
  go_wp2
  go_ret2
  exact⟨_,pE,pN,qB HB⟩
 replace c9:=Bool.eq_false_iff.mpr c9
 subst c9
 rw [iN (show ¬ (false=true) by decide)] at H
 have H':=aM H
 clear H
 go_wp2
 go_loopg [9,34] kj5 (fun kq v9 v34 w'=>∃ (ye:List Int) (ya:Int),v34=.int .i64 ya∧Aside0 (faj.l0 kq l0 l1 ye (l1.length:Int) ya=some (r1,r2))∧Aside0 (kq≤kj5)∧Aside0 (Kd.R (Kd.int .i64) 3 w' w.heap.size (fun _=>True) v9 ye)∧Aside0 (Below w.heap.size w w'))
 case atStart=>exact⟨(([]:List Int)),(0),(pF),H',⟨Nat.le_refl _⟩,⟨pN⟩,⟨qB HB⟩⟩
 clear H'
 try clear c9
 obtain⟨ye,ya,rfl,HA,HK2,ze,HB⟩:=hrel
 cases gk with
 | zero=>exact absurd HA.out (by simp [faj.l0])
 | succ k2=>?_
 have H:=HA.out
 clear HA
 simp only [faj.l0] at H
 by_cases c10:ya < (l1.length:Int)
 rotate_left
 ·rw [iN c10] at H
  have yf:=dF c10
  clear c10
  replace H:=oi2 H
  obtain⟨rfl,rfl⟩:=H
  go_wp2
  go_ret2
  exact⟨_,pE,pR ze.out,qB HB⟩
 rw [ip c10] at H
 have yf:=dT c10
 clear c10
 by_cases c11:0≤ya
 rotate_left
 ·rw [iN c11] at H
  cases H
 rw [ip c11] at H
 have c11b0:=dT c11
 clear c11
 by_cases c12:ya < (l1.length:Int)
 rotate_left
 ·rw [iN c12] at H
  cases H
 rw [ip c12] at H
 have c12b0:=dT c12
 clear c12
 by_cases c13:0≤(rd l1 ya)
 rotate_left
 ·rw [iN c13] at H
  cases H
 rw [ip c13] at H
 have c13b0:=dT c13
 clear c13
 by_cases c14:(rd l1 ya) < (l0.length:Int)
 rotate_left
 ·rw [iN c14] at H
  cases H
 rw [ip c14] at H
 have c14b0:=dT c14
 clear c14
 by_cases c15:ye.length < 17592186044416
 rotate_left
 ·rw [iN c15] at H
  cases H
 rw [ip c15] at H
 have LMc15:=aM c15
 clear c15
 obtain⟨zh,zd⟩:∃ y_:List Int,y_=(ye ++ [rd l0 (rd l1 ya)]):=⟨_,rfl⟩
 replace H:(faj.l0 k2 l0 l1 zh (l1.length:Int) (wrap64 (ya + 1)))=some (r1,r2):=pH zd H
 have Ny627:=aM zd
 clear zd
 have H':=aM H
 clear H
 obtain⟨ad625,⟨⟩,yc,p625,q625⟩:=zI HR1.out ya
 replace yc:=zW HB yc
 obtain⟨ad626,⟨⟩,yd,p626,q626⟩:=zI HR0.out (rd l1 ya)
 replace yd:=zW HB yd
 go_wp2_with (first|((with_reducible refine gate_builtin (b:=.append) (xs:=#[.tmp 37,.tmp 45]) rfl ?_);(try (refine gate_guard (by rfl) ?_;dsimp only));at_builtin;refine Kd.R_append (Kd.int .i64) (w0:=w) w.heap.size rfl (.tmp 37) (.tmp 45) 22 3 (.int .i64 0) 8 rfl Try.underlying22 info3 rfl (by decide) (by omega) u9 ye (rd l0 (rd l1 ya)) [.int .i64 (rd l0 (rd l1 ya))] (fun _=>True) (fun _=>False) rfl rfl ?aP (fun _ hk=>hk.elim) ?aF ?aO ?aB ?aS ?aL ?_;(case aP=>exact rfl);(case aB=>exact(qB HB));(case aF=>exact(fun _ _=>trivial));(case aO=>exact(pR ze.out));(case aS=>exact(below_size (qB HB)));(case aL=>have:=LMc15.out;omega);intro v628 w16 ho hb hg hat;rw [← Ny627.out] at ho;replace HB:=aM (hb);have HO629:=aM (ho);clear ze;clear ho hb hg hat))
 go_roundg k2
 case measure=>have:=HJ5.out;have:=HK2.out;omega
 case rel=>exact⟨(zh),(wrap64 (ya + 1)),(pF),H',⟨pO2 HJ5 HK2⟩,⟨pR HO629.out⟩,⟨qB HB⟩⟩
end Go.Proofs.Ytcdiobcldhiemaa.Q
