/- Texts of the proof of InferDims, part 4: what functions of the program compute, and that they compute it. -/
import Derived.Test.YtcdiobcldhiemaaKInferDimsW
import Derived.Deep.Slices
import Derived.Test.YtcdiobcldhiemaaKInferDims3
set_option maxHeartbeats 8000000
set_option maxRecDepth 100000
namespace G
/-- How many elements dims have; 0, if they may not be. -/
def cnt (d:List Int):Int:=if chk d=0 then prod d else 0
/-- Products of what stands behind. -/
def stp:List Int→List Int
 | []=>[]
 | _::l=>prod l::stp l
def steps (d:List Int):List Int:=if chk d=0 then stp d else []
/-- Are axes such as may be, those of 'seen' being taken? -/
def axv (rank:Int):List Int→List Int→Bool
 | _,[]=>true
 | seen,a::l=>decide (0≤a) && decide (a<rank) && !(seen.contains a) && axv rank (seen++[a]) l
def marks (rank:Nat) (l:List Int):List Bool:=(List.range rank).map fun i:Nat=>l.contains (i:Int)
def mks (rank:Nat) (l:List Int):List Bool:=(List.range rank).map fun i:Nat=>l.isEmpty || l.contains (i:Int)
def axs (rank:Int)(l:List Int):List Bool×Int :=
 if rank<0∨6<rank then([],9)else if axv rank [] l=true then(mks rank.toNat l,0)else([],10)
def drp (keep:Bool):List Bool→List Int→List Int
 | m::ms,x::xs=>if m=true then(if keep=true then 1::drp keep ms xs else drp keep ms xs)else x::drp keep ms xs
 | _,_=>[]
def drop (d axes:List Int)(keep:Bool):List Int×Int :=
 if chk d=0 then(if(axs d.length axes).2=0 then(drp keep (axs d.length axes).1 d,0)else([],(axs d.length axes).2))else([],chk d)
def at0 (l:List Int)(i:Int):Int:=l.getD i.toNat 0
def prm (d axes:List Int):List Int:=axes.map fun a=>at0 d a
def perm (d axes:List Int):List Int×Int :=
 if chk d=0 then(if axes.length=d.length∧(axs d.length axes).2=0 then(prm d axes,0)else([],10))else([],chk d)
def withd (d:List Int)(axis size:Int):List Int×Int :=
 if chk d=0 then(if axis<0∨(d.length:Int)≤axis then([],10)else(if chk (d.set axis.toNat size)=0 then(d.set axis.toNat size,0)else([],chk (d.set axis.toNat size))))else([],chk d)
theorem chk_ok {d:List Int} (h:chk d=0):d.length≤6∧(∀ x∈d,1≤x)∧prod d≤64:=by
 unfold chk at h
 split at h
 ·omega
 ·rename_i h6
  split at h
  ·omega
  ·rename_i h1
   split at h
   ·omega
   ·rename_i h2
    refine⟨by omega,fun x hx=>?_,by omega⟩
    rw[Bool.not_eq_true,List.any_eq_false] at h1
    have:=h1 x hx
    simp at this
    omega
theorem ok_chk {d:List Int} (h6:d.length≤6)(h1:∀ x∈d,1≤x)(h2:prod d≤64):chk d=0:=by
 unfold chk
 rw[iN (by omega),iN,iN (by omega)]
 rw[Bool.not_eq_true,List.any_eq_false]
 intro x hx
 have:=h1 x hx
 simp
 omega
theorem ok_le {d:List Int} (h:chk d=0):∀ x∈d,x≤64:=by
 obtain⟨_,h1,h2⟩:=chk_ok h
 intro x hx
 obtain⟨a,b,rfl⟩:=List.append_of_mem hx
 rw[prod_append] at h2
 simp only[prod] at h2
 have ha:=prod_pos a (fun y hy=>h1 y (by simp[hy]))
 have hb:=prod_pos b (fun y hy=>h1 y (by simp[hy]))
 have hx1:=h1 x (by simp)
 have h3:1*(x*prod b)≤prod a*(x*prod b):=Int.mul_le_mul_of_nonneg_right ha (Int.mul_nonneg (by omega) (by omega))
 have h4:x*1≤x*prod b:=Int.mul_le_mul_of_nonneg_left hb (by omega)
 omega
theorem ok_drop {d:List Int} (h:chk d=0)(i:Nat):chk (d.drop i)=0:=by
 obtain⟨h6,h1,h2⟩:=chk_ok h
 refine ok_chk (by simp;omega) (fun x hx=>h1 x (List.mem_of_mem_drop hx)) ?_
 have e:prod d=prod (d.take i)*prod (d.drop i):=by rw[← prod_append,List.take_append_drop]
 have ha:=prod_pos (d.take i) (fun y hy=>h1 y (List.mem_of_mem_take hy))
 have hb:=prod_pos (d.drop i) (fun y hy=>h1 y (List.mem_of_mem_drop hy))
 have h3:1*prod (d.drop i)≤prod (d.take i)*prod (d.drop i):=Int.mul_le_mul_of_nonneg_right ha (by omega)
 omega
theorem ok_take {d:List Int} (h:chk d=0)(i:Nat):chk (d.take i)=0:=by
 obtain⟨h6,h1,h2⟩:=chk_ok h
 have:=prod_take_le d h1 i
 exact ok_chk (by simp;omega) (fun x hx=>h1 x (List.mem_of_mem_take hx)) (by omega)
theorem cnt_ok {d:List Int} (h:chk d=0):cnt d=prod d∧1≤cnt d∧cnt d≤64:=by
 obtain⟨h6,h1,h2⟩:=chk_ok h
 have:=prod_pos d h1
 unfold cnt
 rw[ip h]
 exact⟨rfl,this,h2⟩
theorem stp_length (d:List Int):(stp d).length=d.length:=by
 induction d with
 | nil=>rfl
 | cons x d ih=>simp[stp,ih]
theorem prod_perm {a b:List Int} (h:a.Perm b):prod a=prod b:=by
 induction h with
 | nil=>rfl
 | cons x _ ih=>simp[prod,ih]
 | swap x y l=>simp only[prod];rw[← Int.mul_assoc,← Int.mul_assoc,Int.mul_comm x y]
 | trans _ _ ih1 ih2=>rw[ih1,ih2]
theorem perm_of_sub {l m:List Int} (hl:l.Nodup)(h:∀ x∈l,x∈m)(hn:m.length≤l.length):l.Perm m:=by
 induction l generalizing m with
 | nil =>
  have:m=[]:=List.eq_nil_of_length_eq_zero (by simp at hn;simp[hn])
  rw[this]
 | cons a l ih =>
  have ha:a∈m:=h a (by simp)
  have hp:=List.perm_cons_erase ha
  rw[List.nodup_cons] at hl
  have hle:(m.erase a).length=m.length-1:=List.length_erase_of_mem ha
  refine(List.Perm.cons a (ih hl.2 (fun x hx=>?_) (by simp at hn;omega))).trans hp.symm
  have hx2:=h x (by simp[hx])
  refine(List.mem_erase_of_ne (fun e=>?_)).2 hx2
  exact hl.1 (e ▸ hx)
theorem axv_nodup (r:Int)(s l:List Int)(h:axv r s l=true):l.Nodup∧∀ a∈l,a ∉ s:=by
 induction l generalizing s with
 | nil=>simp
 | cons x l ih =>
  simp only[axv,Bool.and_eq_true,Bool.not_eq_true',decide_eq_true_eq] at h
  obtain⟨h1,h2⟩:=ih _ h.2
  have hx:x ∉ s:=by
   have:=h.1.2
   simpa using this
  refine⟨List.nodup_cons.2 ⟨fun hm=>?_,h1⟩,fun a ha=>?_⟩
  ·exact h2 x hm (by simp)
  ·rcases List.mem_cons.1 ha with rfl|ha
   ·exact hx
   ·intro hs;exact h2 a ha (by simp[hs])
theorem axv_all (r:Int)(s l:List Int)(h:axv r s l=true):∀ a∈l,0≤a∧a<r:=by
 induction l generalizing s with
 | nil=>simp
 | cons x l ih =>
  simp only[axv,Bool.and_eq_true,decide_eq_true_eq] at h
  intro a ha
  rcases List.mem_cons.1 ha with rfl|ha
  ·exact⟨h.1.1.1,h.1.1.2⟩
  ·exact ih _ h.2 a ha
theorem axs_axv {d l:List Int} (h:(axs d.length l).2=0):axv d.length [] l=true:=by
 unfold axs at h
 split at h
 ·simp at h
 ·split at h
  ·rename_i h2;exact h2
  ·simp at h
theorem at0_range (d:List Int):((List.range d.length).map fun i:Nat=>at0 d (i:Int))=d:=by
 apply List.ext_getElem (by simp)
 intro i h1 h2
 simp[at0,List.getD_eq_getElem?_getD,List.getElem?_eq_getElem h2]
theorem axes_perm {d l:List Int} (h:(axs d.length l).2=0)(hl:l.length=d.length):l.Perm ((List.range d.length).map fun i:Nat=>(i:Int)):=by
 have hv:=axs_axv h
 refine perm_of_sub (axv_nodup _ _ _ hv).1 (fun x hx=>?_) (by simp[hl])
 obtain⟨h0,h1⟩:=axv_all _ _ _ hv x hx
 simp only[List.mem_map,List.mem_range]
 exact⟨x.toNat,by omega,by omega⟩
theorem prm_perm {d l:List Int} (h:(axs d.length l).2=0)(hl:l.length=d.length):(prm d l).Perm d:=by
 have:=(axes_perm h hl).map (fun a=>at0 d a)
 rw[List.map_map] at this
 have e:((fun a=>at0 d a) ∘ fun i:Nat=>(i:Int))=fun i:Nat=>at0 d (i:Int):=rfl
 rw[e,at0_range] at this
 exact this
theorem chk_perm {a b:List Int} (h:a.Perm b)(hb:chk b=0):chk a=0:=by
 obtain⟨h6,h1,h2⟩:=chk_ok hb
 refine ok_chk (by rw[h.length_eq];exact h6) (fun x hx=>h1 x (h.mem_iff.1 hx)) (by rw[prod_perm h];exact h2)
/-- The product of the marked ones. -/
def pm:List Bool→List Int→Int
 | m::ms,x::xs=>if m=true then x*pm ms xs else pm ms xs
 | _,_=>1
theorem pm_pos (m:List Bool)(d:List Int)(h:∀ x∈d,1≤x):1≤pm m d:=by
 induction d generalizing m with
 | nil=>cases m <;> simp[pm]
 | cons x d ih =>
  cases m with
  | nil=>simp[pm]
  | cons b m =>
   have h1:=h x (by simp)
   have h2:=ih m (fun y hy=>h y (by simp[hy]))
   simp only[pm]
   split
   ·have:0<x*pm m d:=Int.mul_pos (by omega) (by omega)
    omega
   ·exact h2
theorem drp_pm (m:List Bool)(d:List Int)(hm:m.length=d.length):prod (drp false m d)*pm m d=prod d:=by
 induction d generalizing m with
 | nil=>cases m <;> simp[pm,drp,prod]
 | cons x d ih =>
  cases m with
  | nil=>simp at hm
  | cons b m =>
   have h2:=ih m (by simpa using hm)
   simp only[pm,drp,prod]
   split
   ·simp only[Bool.false_eq_true,if_false]
    rw[← h2,← Int.mul_assoc,← Int.mul_assoc,Int.mul_comm x]
   ·simp only[prod]
    rw[← h2,Int.mul_assoc]
theorem drp_true (m:List Bool)(d:List Int)(hm:m.length=d.length):prod (drp true m d)=prod (drp false m d)∧(drp true m d).length=d.length:=by
 induction d generalizing m with
 | nil=>cases m <;> simp[drp,prod]
 | cons x d ih =>
  cases m with
  | nil=>simp at hm
  | cons b m =>
   obtain⟨h2,h3⟩:=ih m (by simpa using hm)
   simp only[drp,if_true]
   split
   ·simp[prod,h2,h3]
   ·simp[prod,h2,h3]
theorem drp_pos (keep:Bool)(m:List Bool)(d:List Int)(h:∀ x∈d,1≤x):∀ x∈drp keep m d,1≤x:=by
 induction d generalizing m with
 | nil=>cases m <;> simp[drp]
 | cons x d ih =>
  cases m with
  | nil=>simp[drp]
  | cons b m =>
   have h1:=h x (by simp)
   have h2:=ih m (fun y hy=>h y (by simp[hy]))
   simp only[drp]
   split
   ·split
    ·intro y hy;rcases List.mem_cons.1 hy with rfl|hy
     ·omega
     ·exact h2 y hy
    ·exact h2
   ·intro y hy;rcases List.mem_cons.1 hy with rfl|hy
    ·exact h1
    ·exact h2 y hy
theorem drp_len_le (keep:Bool)(m:List Bool)(d:List Int):(drp keep m d).length≤d.length:=by
 induction d generalizing m with
 | nil=>cases m <;> simp[drp]
 | cons x d ih =>
  cases m with
  | nil=>simp[drp]
  | cons b m =>
   have:=ih m
   simp only[drp]
   split
   ·split <;> simp <;> omega
   ·simp;omega
theorem drp_ok (keep:Bool)(m:List Bool)(d:List Int)(hm:m.length=d.length)(h:chk d=0):chk (drp keep m d)=0∧prod (drp keep m d)*pm m d=prod d:=by
 obtain⟨h6,h1,h2⟩:=chk_ok h
 have e:prod (drp keep m d)*pm m d=prod d:=by
  cases keep with
  | false=>exact drp_pm m d hm
  | true=>rw[(drp_true m d hm).1];exact drp_pm m d hm
 refine⟨ok_chk (by have:=drp_len_le keep m d;omega) (drp_pos keep m d h1) ?_,e⟩
 have p1:=prod_pos _ (drp_pos keep m d h1)
 have p2:=pm_pos m d h1
 have:prod (drp keep m d)*1≤prod (drp keep m d)*pm m d:=Int.mul_le_mul_of_nonneg_left p2 (by omega)
 omega
/-- The place of the n-th element. -/
def dig:List Int→Int→List Int
 | [],_=>[]
 | x::l,n=>n / prod l % x::dig l n
/-- The number of a place. -/
def num:List Int→List Int→Int
 | _::d,a::r=>a*prod d+num d r
 | _,_=>0
/-- Is it a place of these dims? -/
def inb:List Int→List Int→Bool
 | [],[]=>true
 | x::d,a::r=>decide (0≤a) && decide (a<x) && inb d r
 | _,_=>false
def ind (d at_:List Int):Bool:=decide (chk d=0) && inb d at_
def alls (d:List Int):List (List Int):=if chk d=0 then(List.range (prod d).toNat).map fun n:Nat=>dig d (n:Int)else []
theorem dig_length (d:List Int)(n:Int):(dig d n).length=d.length:=by
 induction d with
 | nil=>rfl
 | cons x d ih=>simp[dig,ih]
theorem num_dig (d:List Int)(h:∀ x∈d,1≤x) (n:Int):num d (dig d n)=n % prod d:=by
 induction d with
 | nil=>simp[num,prod,Int.emod_one]
 | cons x d ih =>
  have hx:=h x (by simp)
  have hp:=prod_pos d (fun y hy=>h y (by simp[hy]))
  simp only[num,dig,prod]
  rw[ih (fun y hy=>h y (by simp[hy]))]
  have e1:x*prod d=prod d*x:=Int.mul_comm ..
  have h1:=Int.emod_add_mul_ediv n (prod d)
  have h2:=Int.emod_add_mul_ediv (n / prod d) x
  have h3:n=(n / prod d % x*prod d+n % prod d)+(x*prod d)*(n / prod d / x):=by
   have:prod d*(n / prod d)=prod d*(n / prod d % x)+prod d*(x*(n / prod d / x)):=by rw[← Int.mul_add,h2]
   rw[show (x*prod d)*(n / prod d / x)=prod d*(x*(n / prod d / x)) by rw[e1,Int.mul_assoc],Int.mul_comm (n / prod d % x)]
   omega
  have b1:=Int.emod_nonneg (n / prod d) (show x≠0 by omega)
  have b2:=Int.emod_lt_of_pos (n / prod d) (show 0<x by omega)
  have b3:=Int.emod_nonneg n (show prod d≠0 by omega)
  have b4:=Int.emod_lt_of_pos n (show 0<prod d by omega)
  have b5:0≤n / prod d % x*prod d:=Int.mul_nonneg b1 (by omega)
  have b6:(n / prod d % x+1)*prod d≤x*prod d:=Int.mul_le_mul_of_nonneg_right (by omega) (by omega)
  rw[Int.add_mul] at b6
  have h4:=Int.add_mul_emod_self_left (n / prod d % x*prod d+n % prod d) (x*prod d) (n / prod d / x)
  rw[← h3] at h4
  rw[h4]
  exact(Int.emod_eq_of_lt (by omega) (by omega)).symm
theorem num_dig_lt (d:List Int)(h:∀ x∈d,1≤x) (n:Int)(h0:0≤n)(h1:n<prod d):num d (dig d n)=n:=by
 rw[num_dig d h n,Int.emod_eq_of_lt h0 h1]
theorem inb_dig (d:List Int)(h:∀ x∈d,1≤x) (n:Int):inb d (dig d n)=true:=by
 induction d with
 | nil=>rfl
 | cons x d ih =>
  have hx:=h x (by simp)
  simp only[inb,dig]
  rw[ih (fun y hy=>h y (by simp[hy]))]
  have b1:=Int.emod_nonneg (n / prod d) (show x≠0 by omega)
  have b2:=Int.emod_lt_of_pos (n / prod d) (show 0<x by omega)
  simp[b1,b2]
theorem inb_length {d r:List Int} (h:inb d r=true):r.length=d.length:=by
 induction d generalizing r with
 | nil=>cases r <;> simp_all [inb]
 | cons x d ih =>
  cases r with
  | nil=>simp[inb] at h
  | cons a r =>
   simp only[inb,Bool.and_eq_true] at h
   simp[ih h.2]
theorem num_lt (d r:List Int)(h:∀ x∈d,1≤x)(hi:inb d r=true):0≤num d r∧num d r<prod d:=by
 induction d generalizing r with
 | nil=>cases r <;> simp[num,prod]
 | cons x d ih =>
  cases r with
  | nil=>simp[inb] at hi
  | cons a r =>
   simp only[inb,Bool.and_eq_true,decide_eq_true_eq] at hi
   obtain⟨i1,i2⟩:=ih r (fun y hy=>h y (by simp[hy])) hi.2
   have hp:=prod_pos d (fun y hy=>h y (by simp[hy]))
   simp only[num,prod]
   have b5:0≤a*prod d:=Int.mul_nonneg hi.1.1 (by omega)
   have b6:(a+1)*prod d≤x*prod d:=Int.mul_le_mul_of_nonneg_right (by omega) (by omega)
   rw[Int.add_mul] at b6
   omega
theorem dig_add (d:List Int)(h:∀ x∈d,1≤x) (a m:Int):dig d (a*prod d+m)=dig d m:=by
 induction d generalizing a with
 | nil=>rfl
 | cons y d ih =>
  have hy:=h y (by simp)
  have hp:=prod_pos d (fun z hz=>h z (by simp[hz]))
  simp only[dig,prod]
  rw[show a*(y*prod d)=(a*y)*prod d by rw[Int.mul_assoc]]
  rw[ih (fun z hz=>h z (by simp[hz])) (a*y)]
  rw[Int.add_comm ((a*y)*prod d) m,Int.add_mul_ediv_right _ _ (by omega),Int.mul_comm a y,Int.add_mul_emod_self_left]
theorem dig_num (d r:List Int)(h:∀ x∈d,1≤x)(hi:inb d r=true):dig d (num d r)=r:=by
 induction d generalizing r with
 | nil=>cases r <;> simp_all [inb,dig]
 | cons x d ih =>
  cases r with
  | nil=>simp[inb] at hi
  | cons a r =>
   simp only[inb,Bool.and_eq_true,decide_eq_true_eq] at hi
   have hd:∀ y∈d,1≤y:=fun y hy=>h y (by simp[hy])
   obtain⟨i1,i2⟩:=num_lt d r hd hi.2
   have hp:=prod_pos d hd
   simp only[num,dig]
   rw[dig_add d hd,ih r hd hi.2]
   rw[Int.add_comm,Int.add_mul_ediv_right _ _ (by omega),Int.ediv_eq_zero_of_lt i1 i2,Int.zero_add,Int.emod_eq_of_lt hi.1.1 hi.1.2]
theorem dig_snoc (p:List Int)(x:Int)(h:∀ y∈p,1≤y)(hx:1≤x) (m:Int):dig (p++[x]) m=dig p (m / x)++[m % x]:=by
 induction p with
 | nil=>simp[dig,prod]
 | cons y p ih =>
  simp only[List.cons_append,dig]
  rw[ih (fun z hz=>h z (by simp[hz])),prod_append]
  simp only[prod,Int.mul_one]
  rw[Int.mul_comm (prod p) x,Int.ediv_ediv,iN (by omega),Int.sub_zero]
theorem range_mul {α:Type} (f:Nat→α)(P X:Nat):(List.range (P*X)).map f=(List.range P).flatMap fun n=>(List.range X).map fun v=>f (n*X+v):=by
 induction P with
 | zero=>simp
 | succ P ih =>
  rw[List.range_succ,List.flatMap_append,← ih,Nat.succ_mul,List.range_add,List.map_append,List.map_map]
  simp only[List.flatMap_cons,List.flatMap_nil,List.append_nil]
  rfl
/-- All places of a prefix. -/
def pre (p:List Int):List (List Int):=(List.range (prod p).toNat).map fun n:Nat=>dig p (n:Int)
theorem pre_nil:pre []=[[]]:=by decide
theorem pre_snoc (p:List Int)(x:Int)(h:∀ y∈p,1≤y)(hx:1≤x):pre (p++[x])=(pre p).flatMap fun q=>(List.range x.toNat).map fun v:Nat=>q++[(v:Int)]:=by
 have hp:=prod_pos p h
 unfold pre
 rw[prod_append]
 simp only[prod,Int.mul_one]
 rw[Int.toNat_mul (by omega) (by omega),range_mul,List.flatMap_map]
 congr 1
 funext n
 apply List.map_congr_left
 intro v hv
 rw[List.mem_range] at hv
 rw[dig_snoc p x h hx]
 have e:((n*x.toNat+v:Nat):Int)=(v:Int)+(n:Int)*x:=by
  rw[Int.natCast_add,Int.natCast_mul,Int.toNat_of_nonneg (by omega)];omega
 rw[e,Int.add_mul_ediv_right _ _ (by omega),Int.ediv_eq_zero_of_lt (by omega) (by omega),Int.zero_add,Int.add_mul_emod_self_right,Int.emod_eq_of_lt (by omega) (by omega)]
theorem pre_length (p:List Int):(pre p).length=(prod p).toNat:=by simp[pre]
theorem alls_ok {d:List Int} (h:chk d=0):alls d=pre d:=by unfold alls;rw[ip h];rfl
theorem alls_length (d:List Int):((alls d).length:Int)=cnt d:=by
 unfold alls cnt
 split
 ·rename_i h
  have:=prod_pos d (chk_ok h).2.1
  simp;omega
 ·rfl
theorem alls_get (d:List Int)(n:Nat)(h:n<(alls d).length):(alls d)[n]=dig d (n:Int):=by
 unfold alls at h ⊢
 split
 ·simp
 ·rename_i hc;rw[iN hc] at h;simp at h
def inr (l:List Int)(m:Int):Bool:=l.all fun i=>decide (0≤i) && decide (i<m)
def putd (d:List Int)(n a:Int)(l:List Int):List Int×Int :=
 if(withd d n a).2=0 then(if(l.length:Int)=at0 d n then(if inr l a=true then((withd d n a).1,0)else([],11))else([],8))else([],(withd d n a).2)
def takd (d:List Int)(n:Int)(l:List Int):List Int×Int :=
 if n<0∨(d.length:Int)≤n then([],10)else if inr l (at0 d n)=true then withd d n (l.length:Int)else([],11)
/-- Where an element goes, or comes from. -/
def mvp (n:Int)(l p:List Int):List Int:=p.set n.toNat (at0 l (at0 p n))
theorem inr_cons (x:Int)(l:List Int)(m:Int):inr (x::l) m=true ↔ (0≤x∧x<m)∧inr l m=true:=by
 simp[inr,List.all_cons]
theorem at0_g29 (l:List Int)(i:Nat)(h:i<l.length):at0 l (i:Int)=l[i]:=by
 simp[at0,List.getD_eq_getElem?_getD,List.getElem?_eq_getElem h]
theorem inb_a29 {d p:List Int} (h:inb d p=true)(i:Nat)(hi:i<d.length):0≤at0 p (i:Int)∧at0 p (i:Int)<at0 d (i:Int):=by
 induction d generalizing p i with
 | nil=>simp at hi
 | cons x d ih =>
  cases p with
  | nil=>simp[inb] at h
  | cons a r =>
   simp only[inb,Bool.and_eq_true,decide_eq_true_eq] at h
   cases i with
   | zero=>simpa [at0] using h.1
   | succ i =>
    have:=ih h.2 i (by simpa using hi)
    simpa [at0] using this
theorem withd_o29 {d:List Int} {n a:Int} (h:(withd d n a).2=0):chk d=0∧0≤n∧n<(d.length:Int)∧chk (d.set n.toNat a)=0∧withd d n a=(d.set n.toNat a,0):=by
 unfold withd at h ⊢
 split at h
 ·rename_i h1
  split at h
  ·simp at h
  ·rename_i h2
   split at h
   ·rename_i h3
    exact⟨h1,by omega,by omega,h3,by rw[ip h1,iN h2,ip h3]⟩
   ·exact absurd h (by assumption)
 ·exact absurd h (by assumption)
theorem putd_ok {d:List Int} {n a:Int} {l:List Int} (h:(putd d n a l).2=0) :
  chk d=0∧0≤n∧n<(d.length:Int)∧chk (d.set n.toNat a)=0∧(l.length:Int)=at0 d n∧inr l a=true∧putd d n a l=(d.set n.toNat a,0):=by
 unfold putd at h ⊢
 split at h
 ·rename_i h1
  obtain⟨w1,w2,w3,w4,w5⟩:=withd_o29 h1
  split at h
  ·rename_i h2
   split at h
   ·rename_i h3
    exact⟨w1,w2,w3,w4,h2,h3,by rw[ip h1,ip h2,ip h3,w5]⟩
   ·simp at h
  ·simp at h
 ·exact absurd h (by assumption)
theorem putd_err {d:List Int} {n a:Int} {l:List Int} (h:¬ (putd d n a l).2=0):(putd d n a l).1=[]:=by
 unfold putd at h ⊢
 split
 ·split
  ·split
   ·rename_i h1 h2 h3
    rw[ip h1,ip h2,ip h3] at h
    exact absurd rfl h
   ·rfl
  ·rfl
 ·rfl
def plr (d r:List Int):Int:=if ind d r=true then num d r else -1
theorem inb_dropn (d r:List Int)(h:inb d r=true)(i:Nat):inb (d.drop i) (r.drop i)=true:=by
 induction i generalizing d r with
 | zero=>simpa using h
 | succ i ih =>
  cases d with
  | nil=>cases r <;> simp_all [inb]
  | cons x d =>
   cases r with
   | nil=>simp[inb] at h
   | cons a r =>
    simp only[inb,Bool.and_eq_true] at h
    simpa using ih d r h.2
/-- How far a place lies from a view's first element. -/
def ofs:List Int→List Int→Int
 | a::p,t::s=>a*t+ofs p s
 | _,_=>0
/-- Are the steps such as may be in a room? -/
def sok (room:Int):List Int→List Int→Bool
 | x::d,t::s=>(decide (x≤1) || (decide (-room<t) && decide (t<room))) && sok room d s
 | _,_=>true
def low:List Int→List Int→Int
 | x::d,t::s=>(if(x-1)*t<0 then(x-1)*t else 0)+low d s
 | _,_=>0
def hgh:List Int→List Int→Int
 | x::d,t::s=>(if(x-1)*t<0 then 0 else(x-1)*t)+hgh d s
 | _,_=>0
/-- All but the range of the cells. -/
abbrev vok (o:Int) (d s:List Int) (room:Int):Prop:=chk d=0∧s.length=d.length∧room≤64∧0≤o∧o<room∧sok room d s=true
def rgt (o:Int)(d s:List Int)(room:Int):Bool:=decide (vok o d s room) && decide (0≤o+low d s) && decide (o+hgh d s<room)
def cls (o:Int)(d s:List Int)(room:Int):List Int:=if rgt o d s room=true then(alls d).map fun p=>o+ofs p s else []
/-- One behind the other? -/
def row:List Int→Bool
 | []=>false
 | a::l=>decide (a::l=(List.range (l.length+1)).map fun i:Nat=>a+(i:Int))
def rws:List Int→List Int→Bool
 | x::d,t::s=>rws d s && (decide (x≤1) || decide (t=prod d))
 | _,_=>true
theorem mem_alls {d:List Int} (h:chk d=0) {p:List Int}:p∈alls d ↔ inb d p=true:=by
 obtain⟨h6,h1,h2⟩:=chk_ok h
 rw[alls_ok h]
 unfold pre
 rw[List.mem_map]
 constructor
 ·rintro⟨n,_,rfl⟩;exact inb_dig d h1 _
 ·intro hi
  obtain⟨q1,q2⟩:=num_lt d p h1 hi
  refine⟨(num d p).toNat,?_,?_⟩
  ·rw[List.mem_range];omega
  ·rw[Int.toNat_of_nonneg q1];exact dig_num d p h1 hi
theorem mul_between {a x t:Int} (h0:0≤a)(h1:a≤x-1):(if(x-1)*t<0 then(x-1)*t else 0)≤a*t∧a*t≤(if(x-1)*t<0 then 0 else(x-1)*t):=by
 rcases Int.lt_or_le t 0 with ht|ht
 ·have e1:(x-1)*t≤a*t:=Int.mul_le_mul_of_nonpos_right h1 (by omega)
  have e2:a*t≤0:=Int.mul_nonpos_of_nonneg_of_nonpos h0 (by omega)
  split <;> omega
 ·have e1:a*t≤(x-1)*t:=Int.mul_le_mul_of_nonneg_right h1 ht
  have e2:0≤a*t:=Int.mul_nonneg h0 ht
  split <;> omega
theorem ofs_between (d s p:List Int)(hi:inb d p=true):low d s≤ofs p s∧ofs p s≤hgh d s:=by
 induction d generalizing s p with
 | nil=>cases p <;> simp_all [inb,ofs,low,hgh]
 | cons x d ih =>
  cases p with
  | nil=>simp[inb] at hi
  | cons a p =>
   simp only[inb,Bool.and_eq_true,decide_eq_true_eq] at hi
   cases s with
   | nil=>simp[ofs,low,hgh]
   | cons t s =>
    obtain⟨i1,i2⟩:=ih s p hi.2
    obtain⟨j1,j2⟩:=mul_between (t:=t) hi.1.1 (show a≤x-1 by omega)
    simp only[ofs,low,hgh]
    omega
/-- The place of the lowest cell, and that of the highest one. -/
def lop:List Int→List Int→List Int
 | x::d,t::s=>(if(x-1)*t<0 then x-1 else 0)::lop d s
 | _::d,[]=>0::lop d []
 | [],_=>[]
def hip:List Int→List Int→List Int
 | x::d,t::s=>(if(x-1)*t<0 then 0 else x-1)::hip d s
 | _::d,[]=>0::hip d []
 | [],_=>[]
theorem lop_ok (d s:List Int)(h:∀ x∈d,1≤x):inb d (lop d s)=true∧ofs (lop d s) s=low d s:=by
 induction d generalizing s with
 | nil=>simp[lop,inb,ofs,low]
 | cons x d ih =>
  have hx:=h x (by simp)
  cases s with
  | nil =>
   obtain⟨i1,_⟩:=ih [] (fun y hy=>h y (by simp[hy]))
   refine⟨?_,by simp[lop,ofs,low]⟩
   simp[lop,inb,i1];omega
  | cons t s =>
   obtain⟨i1,i2⟩:=ih s (fun y hy=>h y (by simp[hy]))
   simp only[lop,inb,ofs,low,i1,i2,Bool.and_true,Bool.and_eq_true,decide_eq_true_eq]
   split
   ·exact⟨⟨by omega,by omega⟩,rfl⟩
   ·exact⟨⟨by omega,by omega⟩,by simp⟩
theorem hip_ok (d s:List Int)(h:∀ x∈d,1≤x):inb d (hip d s)=true∧ofs (hip d s) s=hgh d s:=by
 induction d generalizing s with
 | nil=>simp[hip,inb,ofs,hgh]
 | cons x d ih =>
  have hx:=h x (by simp)
  cases s with
  | nil =>
   obtain⟨i1,_⟩:=ih [] (fun y hy=>h y (by simp[hy]))
   refine⟨?_,by simp[hip,ofs,hgh]⟩
   simp[hip,inb,i1];omega
  | cons t s =>
   obtain⟨i1,i2⟩:=ih s (fun y hy=>h y (by simp[hy]))
   simp only[hip,inb,ofs,hgh,i1,i2,Bool.and_true,Bool.and_eq_true,decide_eq_true_eq]
   split
   ·exact⟨⟨by omega,by omega⟩,by simp⟩
   ·exact⟨⟨by omega,by omega⟩,rfl⟩
/-- All cells lie in the room just where the lowest and the highest do. -/
theorem range_iff {d:List Int} (h:chk d=0) (o room:Int)(s:List Int):(∀ p∈alls d,0≤o+ofs p s∧o+ofs p s<room) ↔ 0≤o+low d s∧o+hgh d s<room:=by
 have h1:=(chk_ok h).2.1
 constructor
 ·intro ha
  obtain⟨l1,l2⟩:=lop_ok d s h1
  obtain⟨u1,u2⟩:=hip_ok d s h1
  have a1:=ha _ ((mem_alls h).2 l1)
  have a2:=ha _ ((mem_alls h).2 u1)
  rw[l2] at a1;rw[u2] at a2
  exact⟨a1.1,a2.2⟩
 ·rintro⟨hl,hh⟩ p hp
  obtain⟨i1,i2⟩:=ofs_between d s p ((mem_alls h).1 hp)
  omega
theorem rgt_iff {o:Int} {d s:List Int} {room:Int} (hv:vok o d s room):rgt o d s room=true ↔ ∀ p∈alls d,0≤o+ofs p s∧o+ofs p s<room:=by
 rw[range_iff hv.1]
 unfold rgt
 simp[hv]
theorem rgt_ok {o:Int} {d s:List Int} {room:Int} (h:rgt o d s room=true):vok o d s room∧0≤o+low d s∧o+hgh d s<room:=by
 unfold rgt at h
 simpa [and_assoc] using h
theorem sok_get {r:Int} {d s:List Int} (h:sok r d s=true):∀ i,(hd:i<d.length)→(hs:i<s.length)→d[i]≤1∨(-r<s[i]∧s[i]<r):=by
 induction d generalizing s with
 | nil=>intro i hd;simp at hd
 | cons x d ih =>
  cases s with
  | nil=>intro i _ hs;simp at hs
  | cons t s =>
   simp only[sok,Bool.and_eq_true,Bool.or_eq_true,decide_eq_true_eq] at h
   intro i hd hs
   cases i with
   | zero=>exact h.1
   | succ i=>exact ih h.2 i (by simpa using hd) (by simpa using hs)
theorem cls_ok {o:Int} {d s:List Int} {room:Int} (h:rgt o d s room=true):cls o d s room=(alls d).map fun p=>o+ofs p s:=by unfold cls;rw[ip h]
theorem cls_none {o:Int} {d s:List Int} {room:Int} (h:¬ rgt o d s room=true):cls o d s room=[]:=by unfold cls;rw[iN h]
theorem cls_length (o:Int)(d s:List Int)(room:Int):((cls o d s room).length:Int)=if rgt o d s room=true then cnt d else 0:=by
 unfold cls
 split
 ·rw[List.length_map,alls_length]
 ·rfl
theorem cls_get {o:Int} {d s:List Int} {room:Int} (h:rgt o d s room=true)(n:Nat)(hn:n<(cls o d s room).length):(cls o d s room)[n]=o+ofs (dig d (n:Int)) s:=by
 have e:=cls_ok h
 have hn':n<(alls d).length:=by rw[e,List.length_map] at hn;exact hn
 have:(cls o d s room)[n]=((alls d).map fun p=>o+ofs p s)[n]'(by rw[List.length_map];exact hn'):=by simp only[e]
 rw[this,List.getElem_map,alls_get d n hn']
theorem ofs_dig0 (d s:List Int)(h:∀ x∈d,1≤x):ofs (dig d 0) s=0:=by
 induction d generalizing s with
 | nil=>simp[dig,ofs]
 | cons x d ih =>
  cases s with
  | nil=>simp[ofs]
  | cons t s=>simp[dig,ofs,ih s (fun y hy=>h y (by simp[hy]))]
theorem dig_mod (d:List Int)(h:∀ x∈d,1≤x) (n:Int):dig d n=dig d (n % prod d):=by
 have:=dig_add d h (n / prod d) (n % prod d)
 rw[Int.mul_comm,Int.mul_ediv_add_emod] at this
 exact this
theorem rws_iff (d s:List Int)(h:∀ x∈d,1≤x)(hl:s.length=d.length):rws d s=true ↔ ∀ n:Int,0≤n→n<prod d→ofs (dig d n) s=n:=by
 induction d generalizing s with
 | nil =>
  cases s with
  | nil =>
   simp only[rws,true_iff]
   intro n h0 h1
   simp only[prod] at h1
   simp[dig,ofs];omega
  | cons t s=>simp at hl
 | cons x d ih =>
  cases s with
  | nil=>simp at hl
  | cons t s =>
   have hd:∀ y∈d,1≤y:=fun y hy=>h y (by simp[hy])
   have hx:=h x (by simp)
   have hp:=prod_pos d hd
   have ih:=ih s hd (by simpa using hl)
   simp only[rws,Bool.and_eq_true,Bool.or_eq_true,decide_eq_true_eq]
   constructor
   ·rintro⟨hr,ht⟩ n h0 h1
    simp only[prod] at h1
    have hr:=ih.1 hr
    simp only[dig,ofs]
    rw[dig_mod d hd n,hr _ (Int.emod_nonneg _ (by omega)) (Int.emod_lt_of_pos _ (by omega))]
    have hq:n / prod d<x:=Int.ediv_lt_of_lt_mul (by omega) h1
    have hq0:0≤n / prod d:=Int.ediv_nonneg h0 (by omega)
    rw[Int.emod_eq_of_lt hq0 hq]
    have hdm:=Int.mul_ediv_add_emod n (prod d)
    rcases ht with ht|ht
    ·have:n / prod d=0:=by omega
     rw[this] at hdm ⊢;omega
    ·rw[ht,Int.mul_comm];omega
   ·intro ha
    have hx1:prod (x::d)=x*prod d:=rfl
    have hle:1*prod d≤x*prod d:=Int.mul_le_mul_of_nonneg_right hx (by omega)
    refine⟨ih.2 (fun n h0 h1=>?_),?_⟩
    ·have:=ha n h0 (by rw[hx1];omega)
     simp only[dig,ofs] at this
     rw[Int.ediv_eq_zero_of_lt h0 h1,Int.zero_emod,Int.zero_mul,Int.zero_add] at this
     exact this
    ·rcases Int.lt_or_le 1 x with hx2|hx2
     ·right
      have hle2:2*prod d≤x*prod d:=Int.mul_le_mul_of_nonneg_right (by omega) (by omega)
      have:=ha (prod d) (by omega) (by rw[hx1];omega)
      simp only[dig,ofs] at this
      rw[Int.ediv_self (by omega),Int.emod_eq_of_lt (by omega) hx2,Int.one_mul] at this
      have e:=dig_mod d hd (prod d)
      rw[Int.emod_self] at e
      rw[e,ofs_dig0 d s hd] at this
      omega
     ·left;exact hx2
theorem row_iff (l:List Int):row l=true ↔ 0<l.length∧∀ i,(h:i<l.length)→l[i]=l[0]+(i:Int):=by
 cases l with
 | nil=>simp[row]
 | cons a l =>
  simp only[row,decide_eq_true_eq]
  constructor
  ·intro h
   refine⟨by simp,fun i hi=>?_⟩
   have:(a::l)[i]?=((List.range (l.length+1)).map fun i:Nat=>a+(i:Int))[i]?:=by rw[← h]
   rw[List.getElem?_eq_getElem hi,List.getElem?_map,List.getElem?_range (by simpa using hi)] at this
   simpa using this
  ·rintro⟨_,h⟩
   apply List.ext_getElem
   ·simp
   ·intro i h1 h2
    rw[h i h1];simp
theorem rws_row {o:Int} {d s:List Int} (h:rgt o d s 64=true):rws d s=row (cls o d s 64):=by
 obtain⟨hv,_,_⟩:=rgt_ok h
 obtain⟨h6,h1,h2⟩:=chk_ok hv.1
 have hlen:=cls_length o d s 64
 rw[ip h,(cnt_ok hv.1).1] at hlen
 have hp:=prod_pos d h1
 have key:rws d s=true ↔ row (cls o d s 64)=true:=by
  rw[rws_iff d s h1 hv.2.1,row_iff]
  constructor
  ·intro ha
   refine⟨by omega,fun i hi=>?_⟩
   rw[cls_get h,cls_get h,ha _ (by omega) (by omega),show (((0:Nat):Int))=0 from rfl,ofs_dig0 d s h1]
   omega
  ·rintro⟨_,ha⟩ n h0 hn
   obtain⟨m,rfl⟩:=Int.eq_ofNat_of_zero_le h0
   have:=ha m (by omega)
   rw[cls_get h,cls_get h,show (((0:Nat):Int))=0 from rfl,ofs_dig0 d s h1] at this
   omega
 rcases hb:rws d s with _|_ <;> rcases hc:row (cls o d s 64)with _|_ <;> simp_all
theorem stp_low (d:List Int)(h:∀ x∈d,1≤x):low d (stp d)=0∧hgh d (stp d)=prod d-1∧rws d (stp d)=true:=by
 induction d with
 | nil=>simp[low,hgh,rws,prod]
 | cons x d ih =>
  obtain⟨i1,i2,i3⟩:=ih (fun y hy=>h y (by simp[hy]))
  have hx:=h x (by simp)
  have hp:=prod_pos d (fun y hy=>h y (by simp[hy]))
  have h0:0≤(x-1)*prod d:=Int.mul_nonneg (by omega) (by omega)
  simp only[stp,low,hgh,rws,prod,i1,i2,i3]
  rw[iN (by omega),iN (by omega)]
  refine⟨rfl,?_,by simp⟩
  rw[Int.sub_mul];omega
theorem stp_sok (d:List Int)(h:∀ x∈d,1≤x)(hp64:prod d≤64):sok 64 d (stp d)=true:=by
 induction d with
 | nil=>rfl
 | cons x d ih =>
  have hx:=h x (by simp)
  have hp:=prod_pos d (fun y hy=>h y (by simp[hy]))
  simp only[prod] at hp64
  have hle:1*prod d≤x*prod d:=Int.mul_le_mul_of_nonneg_right hx (by omega)
  simp only[stp,sok,Bool.and_eq_true,Bool.or_eq_true,decide_eq_true_eq]
  refine⟨?_,ih (fun y hy=>h y (by simp[hy])) (by omega)⟩
  rcases Int.lt_or_le 1 x with hx2|hx2
  ·have hle2:2*prod d≤x*prod d:=Int.mul_le_mul_of_nonneg_right (by omega) (by omega)
   right;omega
  ·left;exact hx2
theorem whole_rgt {d:List Int} (h:chk d=0):rgt 0 d (stp d) 64=true:=by
 obtain⟨h6,h1,h2⟩:=chk_ok h
 obtain⟨i1,i2,i3⟩:=stp_low d h1
 unfold rgt vok
 simp[h,stp_length,stp_sok d h1 h2,i1,i2]
 omega
theorem whole_row {d:List Int} (h:chk d=0):row (cls 0 d (stp d) 64)=true:=by
 rw[← rws_row (whole_rgt h)];exact(stp_low d (chk_ok h).2.1).2.2
/-- Cells in a room say that the steps are such as may be. -/
theorem sok_of_cells (o r:Int)(d s:List Int)(h:∀ x∈d,1≤x)(hl:s.length=d.length)(hc:∀ p,inb d p=true→0≤o+ofs p s∧o+ofs p s<r):sok r d s=true:=by
 induction d generalizing s with
 | nil=>cases s <;> rfl
 | cons x d ih =>
  cases s with
  | nil=>simp at hl
  | cons t s =>
   have hx:=h x (by simp)
   have hd:∀ y∈d,1≤y:=fun y hy=>h y (by simp[hy])
   simp only[sok,Bool.and_eq_true,Bool.or_eq_true,decide_eq_true_eq]
   constructor
   ·rcases Int.lt_or_le 1 x with hx2|hx2
    ·right
     have a0:=hc (0::dig d 0) (by simp[inb,inb_dig d hd 0];omega)
     have a1:=hc (1::dig d 0) (by simp[inb,inb_dig d hd 0];omega)
     simp only[ofs,ofs_dig0 d s hd] at a0 a1
     omega
    ·left;exact hx2
   ·refine ih s hd (by simpa using hl) (fun p hp=>?_)
    have:=hc (0::p) (by simp[inb,hp];omega)
    simp only[ofs,Int.zero_mul,Int.zero_add] at this
    exact this
/-- A view is right just where its cells lie in the room. -/
theorem rgt_cells (o:Int)(d s:List Int)(r:Int):rgt o d s r=true ↔ chk d=0∧s.length=d.length∧r≤64∧∀ p,inb d p=true→0≤o+ofs p s∧o+ofs p s<r:=by
 constructor
 ·intro h
  obtain⟨hv,_,_⟩:=rgt_ok h
  exact⟨hv.1,hv.2.1,hv.2.2.1,fun p hp=>(rgt_iff hv).1 h p ((mem_alls hv.1).2 hp)⟩
 ·rintro⟨h1,h2,h3,h4⟩
  have hd:=(chk_ok h1).2.1
  have h0:=h4 (dig d 0) (inb_dig d hd 0)
  rw[ofs_dig0 d s hd,Int.add_zero] at h0
  have hv:vok o d s r:=⟨h1,h2,h3,h0.1,h0.2,sok_of_cells o r d s hd h2 h4⟩
  exact(rgt_iff hv).2 (fun p hp=>h4 p ((mem_alls h1).1 hp))
/-- A view whose elements are elements of another one. -/
theorem rgt_sub {o o':Int} {d d' s s':List Int} {r:Int} (h:rgt o d s r=true)(hc:chk d'=0)(hl:s'.length=d'.length)(hp:∀ p,inb d' p=true→∃ q,inb d q=true∧o'+ofs p s'=o+ofs q s):rgt o' d' s' r=true:=by
 obtain⟨_,_,h3,h4⟩:=(rgt_cells _ _ _ _).1 h
 refine(rgt_cells _ _ _ _).2 ⟨hc,hl,h3,fun p hi=>?_⟩
 obtain⟨q,hq,e⟩:=hp p hi
 rw[e];exact h4 q hq
theorem ofs_set (p s:List Int)(i:Nat)(h:i<p.length)(hs:i<s.length) (a t:Int):ofs (p.set i a) (s.set i t)=ofs p s-p[i]*s[i]+a*t:=by
 induction p generalizing s i with
 | nil=>simp at h
 | cons b p ih =>
  cases s with
  | nil=>simp at hs
  | cons u s =>
   cases i with
   | zero=>simp[ofs];omega
   | succ i =>
    have:=ih s i (by simpa using h) (by simpa using hs)
    simp only[List.set_cons_succ,ofs,List.getElem_cons_succ,this]
    omega
theorem inb_get {d p:List Int} (hi:inb d p=true)(i:Nat)(h:i<d.length)(hp:i<p.length):0≤p[i]∧p[i]<d[i]:=by
 induction d generalizing p i with
 | nil=>simp at h
 | cons x d ih =>
  cases p with
  | nil=>simp[inb] at hi
  | cons b p =>
   simp only[inb,Bool.and_eq_true,decide_eq_true_eq] at hi
   cases i with
   | zero=>exact hi.1
   | succ i=>exact ih hi.2 i (by simpa using h) (by simpa using hp)
/-- Flip: offset, dims, steps, error. -/
def flp (o:Int)(d s:List Int)(a:Int):Int×List Int×List Int×Int :=
 if rgt o d s 64=true then(if a<0∨(d.length:Int)≤a then(0,[],[],10)else if 1<at0 d a then(o+(at0 d a-1)*at0 s a,d,s.set a.toNat (-(at0 s a)),0)else(o,d,s,0))else(0,[],[],1)
theorem flp_ofs (o:Int)(d s p:List Int)(i:Nat)(h:i<d.length)(hs:s.length=d.length)(hi:inb d p=true) :
  o+(at0 d (i:Int)-1)*at0 s (i:Int)+ofs p (s.set i (-(at0 s (i:Int))))=o+ofs (p.set i (at0 d (i:Int)-1-at0 p (i:Int))) s:=by
 have hp:=inb_length hi
 have e1:=ofs_set p s i (by omega) (by omega) p[i] (-(at0 s (i:Int)))
 have e2:=ofs_set p s i (by omega) (by omega) (at0 d (i:Int)-1-at0 p (i:Int)) s[i]
 rw[List.set_getElem_self] at e1 e2
 have a1:at0 s (i:Int)=s[i]:=by simp[at0,List.getD_eq_getElem?_getD,List.getElem?_eq_getElem (show i<s.length by omega)]
 have a2:at0 p (i:Int)=p[i]:=by simp[at0,List.getD_eq_getElem?_getD,List.getElem?_eq_getElem (show i<p.length by omega)]
 rw[e1,e2,a1,a2,Int.sub_mul (at0 d (i:Int)-1),Int.mul_neg]
 omega
def pmt (o:Int)(d s axes:List Int):Int×List Int×List Int×Int :=
 if rgt o d s 64=true then(if(perm d axes).2=0 then(o,prm d axes,prm s axes,0)else(0,[],[],(perm d axes).2))else(0,[],[],1)
theorem at0_get (l:List Int)(i:Nat)(h:i<l.length):at0 l (i:Int)=l[i]:=by
 simp[at0,List.getD_eq_getElem?_getD,List.getElem?_eq_getElem h]
theorem at0_set_same (l:List Int)(i:Nat)(h:i<l.length) (x:Int):at0 (l.set i x) (i:Int)=x:=by
 rw[at0_get _ _ (by simpa using h),List.getElem_set_self]
theorem at0_set_other (l:List Int)(i j:Nat)(h:i≠j) (x:Int):at0 (l.set i x) (j:Int)=at0 l (j:Int):=by
 simp[at0,List.getD_eq_getElem?_getD,List.getElem?_set_ne h]
theorem at0_ext {a b:List Int} (hl:a.length=b.length)(h:∀ j:Nat,j<a.length→at0 a (j:Int)=at0 b (j:Int)):a=b:=by
 apply List.ext_getElem hl
 intro j h1 h2
 have:=h j h1
 rwa [at0_get _ _ h1,at0_get _ _ h2] at this
theorem prm_length (d l:List Int):(prm d l).length=l.length:=by simp[prm]
theorem at0_prm (d l:List Int)(k:Nat)(h:k<l.length):at0 (prm d l) (k:Int)=at0 d (at0 l (k:Int)):=by
 rw[at0_get _ _ (by rw[prm_length];exact h),at0_get _ _ h]
 simp[prm]
theorem inb_iff (d p:List Int):inb d p=true ↔ p.length=d.length∧∀ j:Nat,j<d.length→0≤at0 p (j:Int)∧at0 p (j:Int)<at0 d (j:Int):=by
 constructor
 ·intro h
  have hl:=inb_length h
  refine⟨hl,fun j hj=>?_⟩
  rw[at0_get p j (by omega),at0_get d j hj]
  exact inb_get h j hj (by omega)
 ·rintro⟨hl,h⟩
  induction d generalizing p with
  | nil=>cases p <;> simp_all [inb]
  | cons x d ih =>
   cases p with
   | nil=>simp at hl
   | cons a p =>
    have h0:=h 0 (by simp)
    simp[at0] at h0
    simp only[inb,Bool.and_eq_true,decide_eq_true_eq]
    refine⟨h0,ih p (by simpa using hl) (fun j hj=>?_)⟩
    have:=h (j+1) (by simpa using hj)
    simpa [at0] using this
/-- A permutation of the axes. -/
structure Pm (l:List Int):Prop where
 nodup:l.Nodup
 range:∀ a∈l,0≤a∧a<(l.length:Int)
 all:∀ j:Nat,j<l.length→(j:Int)∈l
theorem pm_of {d l:List Int} (h:(axs d.length l).2=0)(hl:l.length=d.length):Pm l:=by
 have hv:=axs_axv h
 have hp:=axes_perm h hl
 refine⟨(axv_nodup _ _ _ hv).1,fun a ha=>?_,fun j hj=>?_⟩
 ·have:=axv_all _ _ _ hv a ha;rw[hl];exact this
 ·rw[hp.mem_iff]
  simp only[List.mem_map,List.mem_range]
  exact⟨j,by omega,rfl⟩
theorem pm_perm {l:List Int} (h:Pm l):l.Perm ((List.range l.length).map fun i:Nat=>(i:Int)) :=
 perm_of_sub h.nodup (fun x hx=>by
  obtain⟨h0,h1⟩:=h.range x hx
  simp only[List.mem_map,List.mem_range]
  exact⟨x.toNat,by omega,by omega⟩) (by simp)
/-- Axes put back: one after the other. -/
def bks (n:Nat):List Int→Nat→List Int→List Int
 | [],_,out=>out
 | a::l,i,out=>bks n l (i+1) (if 0≤a∧a<(n:Int)then out.set a.toNat (i:Int)else out)
def bk (l:List Int):List Int:=bks l.length l 0 (List.replicate l.length 0)
theorem bks_length (n:Nat)(l:List Int)(i:Nat)(out:List Int):(bks n l i out).length=out.length:=by
 induction l generalizing i out with
 | nil=>rfl
 | cons a l ih=>rw[bks,ih];split <;> simp
theorem bk_length (l:List Int):(bk l).length=l.length:=by unfold bk;rw[bks_length];simp
theorem bks_other (n:Nat)(l:List Int)(i:Nat)(out:List Int)(j:Nat)(h:(j:Int) ∉ l):at0 (bks n l i out) (j:Int)=at0 out (j:Int):=by
 induction l generalizing i out with
 | nil=>rfl
 | cons a l ih =>
  rw[bks,ih _ _ (fun hm=>h (by simp[hm]))]
  split
  ·rename_i ha
   exact at0_set_other _ _ _ (fun e=>h (by simp;omega)) _
  ·rfl
theorem bks_at (n:Nat)(l:List Int)(hd:l.Nodup)(hr:∀ a∈l,0≤a∧a<(n:Int))(i:Nat)(out:List Int)(ho:out.length=n):∀ m,(h:m<l.length)→at0 (bks n l i out) l[m]=((i+m:Nat):Int):=by
 induction l generalizing i out with
 | nil=>intro m h;simp at h
 | cons a l ih =>
  rw[List.nodup_cons] at hd
  have ha:=hr a (by simp)
  intro m h
  rw[bks,ip ha]
  cases m with
  | zero =>
   simp only[List.getElem_cons_zero,Nat.add_zero]
   obtain⟨j,rfl⟩:=Int.eq_ofNat_of_zero_le ha.1
   rw[bks_other _ _ _ _ _ hd.1,Int.toNat_natCast,at0_set_same _ _ (by omega)]
  | succ m =>
   rw[List.getElem_cons_succ,ih hd.2 (fun x hx=>hr x (by simp[hx])) (i+1) _ (by simp[ho]) m (by simpa using h)]
   rw[show i+1+m=i+(m+1) by omega]
theorem bk_at {l:List Int} (h:Pm l)(m:Nat)(hm:m<l.length):at0 (bk l) (at0 l (m:Int))=(m:Int):=by
 rw[at0_get l m hm]
 have:=bks_at l.length l h.nodup h.range 0 (List.replicate l.length 0) (by simp) m hm
 rw[Nat.zero_add] at this
 exact this
theorem pm_back {l:List Int} (h:Pm l)(j:Nat)(hj:j<l.length):∃ m:Nat,m<l.length∧at0 l (m:Int)=(j:Int)∧at0 (bk l) (j:Int)=(m:Int):=by
 obtain⟨m,hm,e⟩:=List.getElem_of_mem (h.all j hj)
 have e':at0 l (m:Int)=(j:Int):=by rw[at0_get l m hm];exact e
 exact⟨m,hm,e',by rw[← e',bk_at h m hm]⟩
theorem bk_prm {l:List Int} (h:Pm l)(x:List Int)(hx:x.length=l.length):prm (prm x (bk l)) l=x:=by
 apply at0_ext (by rw[prm_length,hx])
 intro m hm
 rw[prm_length] at hm
 have hr:=h.range (l[m]) (List.getElem_mem hm)
 rw[at0_prm _ _ _ hm,at0_get l m hm]
 obtain⟨j,hj⟩:=Int.eq_ofNat_of_zero_le hr.1
 have hjl:j<l.length:=by omega
 rw[hj,at0_prm _ _ _ (by rw[bk_length];exact hjl)]
 have:=bk_at h m hm
 rw[at0_get l m hm,hj] at this
 rw[this]
theorem ofs_sum (p s:List Int)(h:p.length=s.length):ofs p s=((List.range p.length).map fun j:Nat=>at0 p (j:Int)*at0 s (j:Int)).sum:=by
 induction p generalizing s with
 | nil=>simp[ofs]
 | cons a p ih =>
  cases s with
  | nil=>simp at h
  | cons t s =>
   rw[ofs,ih s (by simpa using h),List.length_cons,List.range_succ_eq_map,List.map_cons,List.map_map,List.sum_cons]
   congr 1
theorem sum_perm {a b:List Int} (h:a.Perm b):a.sum=b.sum:=by
 induction h with
 | nil=>rfl
 | cons x _ ih=>simp[ih]
 | swap x y l=>simp only[List.sum_cons];omega
 | trans _ _ ih1 ih2=>rw[ih1,ih2]
theorem ofs_prm {l:List Int} (h:Pm l)(p s:List Int)(hp:p.length=l.length)(hs:s.length=l.length):ofs (prm p l) (prm s l)=ofs p s:=by
 rw[ofs_sum _ _ (by rw[prm_length,prm_length]),ofs_sum _ _ (by omega),prm_length,hp]
 have e1:((List.range l.length).map fun j:Nat=>at0 (prm p l) (j:Int)*at0 (prm s l) (j:Int))=l.map fun a=>at0 p a*at0 s a:=by
  apply List.ext_getElem (by simp)
  intro j h1 h2
  rw[List.length_map] at h2
  simp only[List.getElem_map,List.getElem_range]
  rw[at0_prm _ _ _ h2,at0_prm _ _ _ h2,at0_get l j h2]
 rw[e1,sum_perm ((pm_perm h).map fun a=>at0 p a*at0 s a),List.map_map]
 rfl
theorem inb_prm {l:List Int} (h:Pm l)(d q:List Int)(hd:d.length=l.length)(hi:inb (prm d l) q=true):inb d (prm q (bk l))=true:=by
 obtain⟨hl,hq⟩:=(inb_iff _ _).1 hi
 rw[prm_length] at hl hq
 refine(inb_iff _ _).2 ⟨by rw[prm_length,bk_length,hd],fun j hj=>?_⟩
 obtain⟨m,hm,e1,e2⟩:=pm_back h j (by omega)
 have:=hq m hm
 rw[at0_prm _ _ _ hm,e1] at this
 rw[at0_prm _ _ _ (by rw[bk_length];omega),e2]
 exact this
theorem pmt_ofs {l:List Int} (h:Pm l)(s q:List Int)(hs:s.length=l.length)(hq:q.length=l.length):ofs q (prm s l)=ofs (prm q (bk l)) s:=by
 have:=ofs_prm h (prm q (bk l)) s (by rw[prm_length,bk_length]) hs
 rw[bk_prm h q hq] at this
 exact this
theorem perm_ok {d l:List Int} (h:(perm d l).2=0):chk d=0∧Pm l∧l.length=d.length∧chk (prm d l)=0∧(perm d l).1=prm d l:=by
 unfold perm at h ⊢
 split at h
 ·rename_i h1
  split at h
  ·rename_i h2
   rw[ip h1,ip h2]
   exact⟨h1,pm_of h2.2 h2.1,h2.1,chk_perm (prm_perm h2.2 h2.1) h1,rfl⟩
  ·simp at h
 ·rename_i h1;exact absurd h h1
def mx (a b:Int):Int:=if a<b then b else a
/-- Dims with 1 ahead, n in all. -/
def pad (n:Nat) (l:List Int):List Int:=List.replicate (n-l.length) 1++l
/-- Do they go together, one by one? -/
def fitz:List Int→List Int→Bool
 | x::a,y::b=>(x==y || x==1 || y==1) && fitz a b
 | _,_=>true
def mxs:List Int→List Int→List Int
 | x::a,y::b=>mx x y::mxs a b
 | _,_=>[]
def tw (p q:List Int):List Int×Int:=if fitz p q=true then(if chk (mxs p q)=0 then(mxs p q,0)else([],chk (mxs p q)))else([],8)
def rank2 (a b:List Int):Nat:=max a.length b.length
def two (a b:List Int):List Int×Int :=
 if chk a=0 then(if chk b=0 then tw (pad (rank2 a b) a) (pad (rank2 a b) b)else([],chk b))else([],chk a)
def fts (a b:List Int):Bool:=decide ((two a b).2=0) && decide ((two a b).1=b)
/-- The place that is spread to one. -/
def sat:List Int→List Int→List Int
 | x::f,v::q=>(if x=1 then 0 else v)::sat f q
 | _,_=>[]
def src (a b:List Int)(n:Int):Int:=num a (sat a ((dig b n).drop (b.length-a.length)))
def srcs (a b:List Int):List Int:=if fts a b=true then(alls b).map fun p=>num a (sat a (p.drop (b.length-a.length)))else []
theorem pad_length (n:Nat)(l:List Int)(h:l.length≤n):(pad n l).length=n:=by simp[pad];omega
theorem pad_self (l:List Int):pad l.length l=l:=by simp[pad]
theorem mxs_length (a b:List Int)(h:a.length=b.length):(mxs a b).length=a.length:=by
 induction a generalizing b with
 | nil=>cases b <;> simp[mxs]
 | cons x a ih =>
  cases b with
  | nil=>simp at h
  | cons y b=>simp[mxs,ih b (by simpa using h)]
theorem fitz_drop (a b:List Int)(i:Nat)(h:fitz a b=true):fitz (a.drop i) (b.drop i)=true:=by
 induction i generalizing a b with
 | zero=>simpa using h
 | succ i ih =>
  cases a with
  | nil=>simp[fitz]
  | cons x a =>
   cases b with
   | nil=>simp[fitz]
   | cons y b =>
    simp only[fitz,Bool.and_eq_true] at h
    simpa using ih a b h.2
theorem pad_at (n:Nat)(l:List Int)(h:l.length≤n)(i:Nat)(hi:i<n) :
  (pad n l)[i]'(by rw[pad_length n l h];exact hi)=if h2:n-l.length≤i then l[i-(n-l.length)]'(by omega)else 1:=by
 unfold pad
 split
 ·rename_i h2
  rw[List.getElem_append_right (by simpa using h2)]
  simp
 ·rename_i h2
  rw[List.getElem_append_left (by simp;omega)]
  simp
/-- f is 1 or t, everywhere. -/
def sub:List Int→List Int→Bool
 | x::f,y::t=>(x==1 || x==y) && sub f t
 | [],[]=>true
 | _,_=>false
theorem sub_iff (f t:List Int)(hl:f.length=t.length)(hf:∀ x∈f,1≤x)(ht:∀ x∈t,1≤x):sub f t=true ↔ fitz f t=true∧mxs f t=t:=by
 induction f generalizing t with
 | nil=>cases t <;> simp_all [sub,fitz,mxs]
 | cons x f ih =>
  cases t with
  | nil=>simp at hl
  | cons y t =>
   have h1:=hf x (by simp)
   have h2:=ht y (by simp)
   have:=ih t (by simpa using hl) (fun z hz=>hf z (by simp[hz])) (fun z hz=>ht z (by simp[hz]))
   simp only[sub,fitz,mxs,Bool.and_eq_true,Bool.or_eq_true,beq_iff_eq,List.cons.injEq,this]
   constructor
   ·rintro⟨h|h,h3,h4⟩
    ·exact⟨⟨.inl (.inr h),h3⟩,by unfold mx;split <;> omega,h4⟩
    ·exact⟨⟨.inl (.inl h),h3⟩,by unfold mx;split <;> omega,h4⟩
   ·rintro⟨⟨h,h3⟩,h5,h4⟩
    unfold mx at h5
    refine⟨?_,h3,h4⟩
    split at h5
    ·rcases h with(h|h)|h
     ·exact .inr h
     ·exact .inl h
     ·omega
    ·exact .inr h5
theorem pad_pos (n:Nat)(l:List Int)(h:∀ x∈l,1≤x):∀ x∈pad n l,1≤x:=by
 intro x hx
 unfold pad at hx
 rcases List.mem_append.1 hx with hx|hx
 ·have:=List.eq_of_mem_replicate hx;omega
 ·exact h x hx
/-- What 'fits' says. -/
theorem fts_iff (a b:List Int):fts a b=true ↔ chk a=0∧chk b=0∧a.length≤b.length∧sub (pad b.length a) b=true:=by
 unfold fts
 simp only[Bool.and_eq_true,decide_eq_true_eq]
 constructor
 ·rintro⟨h1,h2⟩
  unfold two at h1 h2
  split at h1
  ·rename_i ha
   rw[ip ha] at h2
   split at h1
   ·rename_i hb
    rw[ip hb] at h2
    unfold tw at h1 h2
    split at h1
    ·rename_i hf
     rw[ip hf] at h2
     split at h1
     ·rename_i hc
      rw[ip hc] at h2
      simp only at h2
      have hl:=mxs_length (pad (rank2 a b) a) (pad (rank2 a b) b) (by rw[pad_length,pad_length] <;> unfold rank2 <;> omega)
      rw[h2,pad_length _ _ (by unfold rank2;omega)] at hl
      have hle:a.length≤b.length:=by unfold rank2 at hl;omega
      rw[← hl,pad_self] at hf h2
      refine⟨ha,hb,hle,(sub_iff _ _ (pad_length _ _ hle) (pad_pos _ _ (chk_ok ha).2.1) (chk_ok hb).2.1).2 ⟨hf,h2⟩⟩
     ·rename_i hc;exact absurd h1 hc
    ·simp at h1
   ·rename_i hb;exact absurd h1 hb
  ·rename_i ha;exact absurd h1 ha
 ·rintro⟨ha,hb,hle,hs⟩
  obtain⟨s1,s2⟩:=(sub_iff _ _ (pad_length _ _ hle) (pad_pos _ _ (chk_ok ha).2.1) (chk_ok hb).2.1).1 hs
  have e:two a b=(b,0):=by
   unfold two
   have hr:rank2 a b=b.length:=by unfold rank2;omega
   rw[ip ha,ip hb,hr,pad_self]
   unfold tw
   rw[ip s1,s2,ip hb]
  rw[e];exact⟨rfl,rfl⟩
theorem tw_ok {p q x:List Int} (h:tw p q=(x,0)):fitz p q=true∧chk x=0∧mxs p q=x:=by
 unfold tw at h
 split at h
 ·rename_i hf
  split at h
  ·rename_i hc
   simp only[Prod.mk.injEq,and_true] at h
   subst h
   exact⟨hf,hc,rfl⟩
  ·rename_i hc
   simp only[Prod.mk.injEq] at h
   exact absurd h.2 hc
 ·simp at h
theorem two_ok {a b x:List Int} (h:two a b=(x,0)):chk a=0∧chk b=0∧fitz (pad (rank2 a b) a) (pad (rank2 a b) b)=true∧chk x=0∧mxs (pad (rank2 a b) a) (pad (rank2 a b) b)=x:=by
 unfold two at h
 split at h
 ·rename_i ha
  split at h
  ·rename_i hb
   obtain⟨h1,h2,h3⟩:=tw_ok h
   exact⟨ha,hb,h1,h2,h3⟩
  ·rename_i hb
   simp only[Prod.mk.injEq] at h
   exact absurd h.2 hb
 ·rename_i ha
  simp only[Prod.mk.injEq] at h
  exact absurd h.2 ha
theorem sub_drop {f t:List Int} (h:sub f t=true)(i:Nat):sub (f.drop i) (t.drop i)=true:=by
 induction i generalizing f t with
 | zero=>simpa using h
 | succ i ih =>
  cases f with
  | nil=>cases t <;> simp_all [sub]
  | cons x f =>
   cases t with
   | nil=>simp[sub] at h
   | cons y t =>
    simp only[sub,Bool.and_eq_true] at h
    simpa using ih h.2
theorem pad_drop (n:Nat)(l:List Int):(pad n l).drop (n-l.length)=l:=by
 unfold pad
 rw[List.drop_append_of_le_length (by simp)]
 simp
theorem inb_sat (f t q:List Int)(hs:sub f t=true)(hf:∀ x∈f,1≤x)(hq:inb t q=true):inb f (sat f q)=true:=by
 induction f generalizing t q with
 | nil=>cases t <;> cases q <;> simp_all [sub,inb,sat]
 | cons x f ih =>
  cases t with
  | nil=>simp[sub] at hs
  | cons y t =>
   cases q with
   | nil=>simp[inb] at hq
   | cons v q =>
    have h1:=hf x (by simp)
    simp only[sub,Bool.and_eq_true,Bool.or_eq_true,beq_iff_eq] at hs
    simp only[inb,Bool.and_eq_true,decide_eq_true_eq] at hq
    simp only[inb,sat,Bool.and_eq_true,decide_eq_true_eq]
    refine⟨?_,ih t q hs.2 (fun z hz=>hf z (by simp[hz])) hq.2⟩
    split <;> omega
theorem inb_drop {d r:List Int} (h:inb d r=true)(i:Nat):inb (d.drop i) (r.drop i)=true:=by
 induction i generalizing d r with
 | zero=>simpa using h
 | succ i ih =>
  cases d with
  | nil=>cases r <;> simp_all [inb]
  | cons x d =>
   cases r with
   | nil=>simp[inb] at h
   | cons y r =>
    simp only[inb,Bool.and_eq_true] at h
    simpa using ih h.2
theorem src_in {a b:List Int} (h:fts a b=true) (n:Int):inb a (sat a ((dig b n).drop (b.length-a.length)))=true:=by
 obtain⟨h1,h2,h3,h4⟩:=(fts_iff a b).1 h
 have hs:=sub_drop h4 (b.length-a.length)
 rw[pad_drop] at hs
 exact inb_sat a _ _ hs (chk_ok h1).2.1 (inb_drop (inb_dig b (chk_ok h2).2.1 n) _)
theorem srcs_length (a b:List Int)(h:fts a b=true):((srcs a b).length:Int)=cnt b:=by
 unfold srcs
 rw[ip h,List.length_map,alls_length]
theorem srcs_get (a b:List Int)(h:fts a b=true)(n:Nat)(hn:n<(srcs a b).length):(srcs a b)[n]=src a b (n:Int):=by
 have e:srcs a b=(alls b).map fun p=>num a (sat a (p.drop (b.length-a.length))):=by unfold srcs;rw[ip h]
 simp only[e,List.getElem_map,alls_get]
 rfl
/-- The elements that a map of places picks. -/
def nums (d d':List Int)(f:List Int→List Int):List Int:=(alls d').map fun p=>num d (f p)
def rsp (d to_:List Int):List Int×List Int×Int :=
 if chk to_=0 then(if cnt to_=cnt d then(to_,(List.range (cnt d).toNat).map fun i:Nat=>(i:Int),0)else([],[],8))else([],[],chk to_)
def rpm (d axes:List Int):List Int×List Int×Int :=
 if(perm d axes).2=0 then(prm d axes,nums d (prm d axes) fun q=>prm q (bk axes),0)else([],[],(perm d axes).2)
def tkf (axis:Int)(marks p:List Int):List Int:=p.set axis.toNat (at0 marks (at0 p axis))
def rtk (d:List Int)(axis:Int)(marks:List Int):List Int×List Int×Int :=
 if(withd d axis marks.length).2=0 then((withd d axis marks.length).1,nums d (withd d axis marks.length).1 (tkf axis marks),0)else([],[],(withd d axis marks.length).2)
def rfl_ (d:List Int)(axis:Int):List Int×List Int×Int :=
 if axis<0∨(d.length:Int)≤axis then([],[],10)else rtk d axis ((List.range (at0 d axis).toNat).map fun i:Nat=>at0 d axis-1-(i:Int))
/-- The marks of a slice; none where one is out of range. -/
def mrk (x start step:Int)(n:Nat):Option (List Int) :=
 if(List.range n).all (fun i:Nat=>decide (0≤start+(i:Int)*step) && decide (start+(i:Int)*step<x))=true then some ((List.range n).map fun i:Nat=>start+(i:Int)*step)else none
def rsl (d:List Int)(axis start count step:Int):List Int×List Int×Int :=
 if axis<0∨(d.length:Int)≤axis then([],[],10)
 else if count<1∨at0 d axis<count∨start<0∨at0 d axis≤start∨(1<count∧(step=0∨64<step∨step < -64))then([],[],11)
 else match mrk (at0 d axis) start step count.toNat with
  | some m=>rtk d axis m
  | none=>([],[],11)
def rex (d to_:List Int):List Int×List Int×Int :=
 if chk to_=0 then(if fts d to_=true then(to_,srcs d to_,0)else([],[],8))else([],[],chk to_)
def vrs (o:Int)(d s to_:List Int):Int×List Int×List Int×Int :=
 if rgt o d s 64=true then(if chk to_=0 then(if cnt to_=cnt d then(if row (cls o d s 64)=true then(o,to_,stp to_,0)else(0,[],[],19))else(0,[],[],8))else(0,[],[],chk to_))else(0,[],[],1)
def vsl (o:Int)(d s:List Int)(a start count step:Int):Int×List Int×List Int×Int :=
 if rgt o d s 64=true then(if a<0∨(d.length:Int)≤a then(0,[],[],10)
  else if start<0∨at0 d a≤start∨count<1∨at0 d a<count∨(1<count∧(step=0∨at0 d a≤step∨step≤-(at0 d a)∨start+(count-1)*step<0∨at0 d a≤start+(count-1)*step))then(0,[],[],11)
  else(if 0<start then o+start*at0 s a else o,d.set a.toNat count,if count=1 then s.set a.toNat 0 else s.set a.toNat (at0 s a*step),0))else(0,[],[],1)
/-- Steps of a view that is spread. -/
def exs:List Int→List Int→List Int
 | x::d,t::s=>(if 1<x then t else 0)::exs d s
 | _,_=>[]
def vex (o:Int)(d s to_:List Int):Int×List Int×List Int×Int :=
 if rgt o d s 64=true then(if chk to_=0 then(if fts d to_=true then(o,to_,List.replicate (to_.length-d.length) 0++exs d s,0)else(0,[],[],8))else(0,[],[],chk to_))else(0,[],[],1)
theorem exs_length (d s:List Int)(h:s.length=d.length):(exs d s).length=d.length:=by
 induction d generalizing s with
 | nil=>cases s <;> simp_all [exs]
 | cons x d ih =>
  cases s with
  | nil=>simp at h
  | cons t s=>simp[exs,ih s (by simpa using h)]
theorem exs_at (d s:List Int)(h:s.length=d.length)(i:Nat)(hi:i<d.length):at0 (exs d s) (i:Int)=if 1<at0 d (i:Int)then at0 s (i:Int)else 0:=by
 induction d generalizing s i with
 | nil=>simp at hi
 | cons x d ih =>
  cases s with
  | nil=>simp at h
  | cons t s =>
   cases i with
   | zero=>simp[exs,at0]
   | succ i =>
    have:=ih s (by simpa using h) i (by simpa using hi)
    simpa [exs,at0] using this
/-- The steps, i of them set. -/
def est (n:Nat) (d s:List Int)(i:Nat):List Int:=List.replicate (n-d.length) 0++((exs d s).take i++List.replicate (d.length-i) 0)
theorem est_length (n:Nat)(d s:List Int)(h:s.length=d.length)(hn:d.length≤n)(i:Nat)(hi:i≤d.length):(est n d s i).length=n:=by
 simp[est,exs_length d s h];omega
theorem est_succ (n:Nat)(d s:List Int)(h:s.length=d.length)(i:Nat)(hi:i<d.length):est n d s (i+1)=(est n d s i).set (n-d.length+i) (at0 (exs d s) (i:Int)):=by
 have hl:=exs_length d s h
 unfold est
 rw[List.set_append_right _ _ (by simp),List.length_replicate,show n-d.length+i-(n-d.length)=i by omega]
 rw[List.set_append_right _ _ (by rw[List.length_take];omega),List.length_take,Nat.min_eq_left (by omega),Nat.sub_self]
 rw[show d.length-i=(d.length-(i+1))+1 by omega,List.replicate_succ,List.set_cons_zero]
 rw[List.take_succ_eq_append_getElem (by omega),at0_get _ _ (by omega),List.append_assoc,List.singleton_append]
theorem est_keep (n:Nat)(d s:List Int)(h:s.length=d.length)(i:Nat)(hi:i<d.length)(h1:¬ 1<at0 d (i:Int)):est n d s (i+1)=est n d s i:=by
 have hl:=exs_length d s h
 have he:=exs_at d s h i hi
 rw[iN h1,at0_get _ _ (by omega)] at he
 unfold est
 rw[List.take_succ_eq_append_getElem (by omega),he,List.append_assoc,List.singleton_append,← List.replicate_succ,show d.length-(i+1)+1=d.length-i by omega]
/-- A map of places under which a view's elements are elements of another one. -/
def Pk (o:Int)(d s:List Int)(o':Int)(d' s':List Int)(f:List Int→List Int):Prop:=∀ p,inb d' p=true→inb d (f p)=true∧o'+ofs p s'=o+ofs (f p) s
theorem pk_rgt {o o':Int} {d s d' s':List Int} {f:List Int→List Int} {r:Int} (h:rgt o d s r=true)(hc:chk d'=0)(hl:s'.length=d'.length)(hp:Pk o d s o' d' s' f):rgt o' d' s' r=true :=
 rgt_sub h hc hl (fun p hi=>⟨f p,hp p hi⟩)
theorem cls_at {o:Int} {d s:List Int} (h:rgt o d s 64=true)(p:List Int)(hp:inb d p=true):0≤num d p∧num d p<((cls o d s 64).length:Int)∧at0 (cls o d s 64) (num d p)=o+ofs p s:=by
 have hv:=(rgt_ok h).1
 have h1:=(chk_ok hv.1).2.1
 obtain⟨a1,a2⟩:=num_lt d p h1 hp
 have hl:=cls_length o d s 64
 rw[ip h,(cnt_ok hv.1).1] at hl
 obtain⟨m,hm⟩:=Int.eq_ofNat_of_zero_le a1
 refine⟨a1,by omega,?_⟩
 rw[hm,at0_get _ _ (by omega),cls_get h,← hm,dig_num d p h1 hp]
theorem pk_cls {o o':Int} {d s d' s':List Int} {f:List Int→List Int} (h:rgt o d s 64=true)(hc:chk d'=0)(hl:s'.length=d'.length)(hp:Pk o d s o' d' s' f) :
  cls o' d' s' 64=(nums d d' f).map (fun a=>at0 (cls o d s 64) a):=by
 rw[cls_ok (pk_rgt h hc hl hp)]
 unfold nums
 rw[List.map_map]
 apply List.map_congr_left
 intro p hpm
 obtain⟨q1,q2⟩:=hp p ((mem_alls hc).1 hpm)
 simp only[Function.comp]
 rw[(cls_at h (f p) q1).2.2,q2]
theorem pk_nums {o o':Int} {d s d' s':List Int} {f:List Int→List Int} (h:rgt o d s 64=true)(hc:chk d'=0)(hp:Pk o d s o' d' s' f) :
  (nums d d' f).length≤64∧∀ a∈nums d d' f,0≤a∧a<((cls o d s 64).length:Int):=by
 have:=alls_length d'
 have:=(cnt_ok hc).2.2
 refine⟨by unfold nums;rw[List.length_map];omega,fun a ha=>?_⟩
 unfold nums at ha
 rw[List.mem_map] at ha
 obtain⟨p,hpm,rfl⟩:=ha
 have:=cls_at h (f p) (hp p ((mem_alls hc).1 hpm)).1
 exact⟨this.1,this.2.1⟩
/-- What the law wants of a view of a view (offset, dims, steps, error) and what the reference tells (dims, elements, error). -/
def Agr (o:Int)(d s:List Int)(w:Int×List Int×List Int×Int) (r:List Int×List Int×Int):Prop :=
 (r.2.2=0→w.2.2.2=0∧w.2.1=r.1∧r.1.length≤6∧cls w.1 w.2.1 w.2.2.1 64=r.2.1.map (fun a=>at0 (cls o d s 64) a)∧r.2.1.length≤64∧∀ a∈r.2.1,0≤a∧a<((cls o d s 64).length:Int)) ∧
 (r.2.2≠0→w=(0,[],[],r.2.2))
theorem agr_pk {o o':Int} {d s d' s':List Int} {f:List Int→List Int} (h:rgt o d s 64=true)(hc:chk d'=0)(hl:s'.length=d'.length)(hp:Pk o d s o' d' s' f):Agr o d s (o',d',s',0) (d',nums d d' f,0) :=
 ⟨fun _=>⟨rfl,rfl,(chk_ok hc).1,pk_cls h hc hl hp,(pk_nums h hc hp).1,(pk_nums h hc hp).2⟩,fun hh=>absurd rfl hh⟩
theorem agr_err (o:Int)(d s:List Int)(e:Int)(he:e≠0):Agr o d s (0,[],[],e) ([],[],e):=⟨fun hh=>absurd hh he,fun _=>rfl⟩
theorem agr_permute {o:Int} {d s:List Int} (h:rgt o d s 64=true)(l:List Int):Agr o d s (pmt o d s l) (rpm d l):=by
 unfold pmt rpm
 rw[ip h]
 by_cases h2:(perm d l).2=0
 ·rw[ip h2,ip h2]
  obtain⟨p1,p2,p3,p4,p5⟩:=perm_ok h2
  have hs:=(rgt_ok h).1.2.1
  refine agr_pk h p4 (by rw[prm_length,prm_length]) (fun p hp=>⟨inb_prm p2 d p p3.symm hp,?_⟩)
  rw[pmt_ofs p2 s p (by omega) (by rw[inb_length hp,prm_length])]
 ·rw[iN h2,iN h2]
  exact agr_err _ _ _ _ h2
theorem prod_set_le (d:List Int)(h:∀ x∈d,1≤x)(i:Nat)(hi:i<d.length) (c:Int)(h1:1≤c)(h2:c≤d[i]):prod (d.set i c)≤prod d∧∀ x∈d.set i c,1≤x:=by
 refine⟨?_,fun x hx=>?_⟩
 ·induction d generalizing i with
  | nil=>simp at hi
  | cons y d ih =>
   have hp:=prod_pos d (fun z hz=>h z (by simp[hz]))
   have hy:=h y (by simp)
   cases i with
   | zero=>simp only[List.set_cons_zero,prod];exact Int.mul_le_mul_of_nonneg_right (by simpa using h2) (by omega)
   | succ i =>
    have:=ih (fun z hz=>h z (by simp[hz])) i (by simpa using hi) (by simpa using h2)
    simp only[List.set_cons_succ,prod]
    exact Int.mul_le_mul_of_nonneg_left this (by omega)
 ·rcases List.mem_or_eq_of_mem_set hx with hx|rfl
  ·exact h x hx
  ·exact h1
theorem chk_set {d:List Int} (hc:chk d=0)(i:Nat)(hi:i<d.length) (c:Int)(h1:1≤c)(h2:c≤d[i]):chk (d.set i c)=0:=by
 obtain⟨a1,a2,a3⟩:=chk_ok hc
 obtain⟨b1,b2⟩:=prod_set_le d a2 i hi c h1 h2
 exact ok_chk (by simpa using a1) b2 (by omega)
theorem rtk_ok {d:List Int} (hc:chk d=0)(i:Nat)(hi:i<d.length)(marks:List Int)(h1:1≤marks.length)(h2:(marks.length:Int)≤d[i]):rtk d (i:Int) marks=(d.set i (marks.length:Int),nums d (d.set i (marks.length:Int)) (tkf (i:Int) marks),0):=by
 have hs:=chk_set hc i hi (marks.length:Int) (by omega) h2
 have e:withd d (i:Int) (marks.length:Int)=(d.set i (marks.length:Int),0):=by
  unfold withd
  rw[ip hc,iN (by omega),Int.toNat_natCast,ip hs]
 unfold rtk
 rw[e];rfl
theorem tkf_inb {d:List Int} (i:Nat)(hi:i<d.length)(marks:List Int)(hm:∀ m∈marks,0≤m∧m<at0 d (i:Int))(p:List Int)(hp:inb (d.set i (marks.length:Int)) p=true):inb d (tkf (i:Int) marks p)=true∧0≤at0 p (i:Int)∧at0 p (i:Int)<(marks.length:Int):=by
 obtain⟨hl,hpi⟩:=(inb_iff _ _).1 hp
 rw[List.length_set] at hl hpi
 have ha:=hpi i hi
 rw[at0_set_same _ _ hi] at ha
 refine⟨(inb_iff _ _).2 ⟨by unfold tkf;simp;omega,fun b hb=>?_⟩,ha⟩
 unfold tkf
 rw[Int.toNat_natCast]
 by_cases e:i=b
 ·subst e
  obtain⟨j,hj⟩:=Int.eq_ofNat_of_zero_le ha.1
  have hjl:j<marks.length:=by omega
  rw[at0_set_same _ _ (by omega),hj,at0_get _ _ hjl]
  exact hm _ (List.getElem_mem hjl)
 ·rw[at0_set_other _ _ _ e]
  have:=hpi b hb
  rw[at0_set_other _ _ _ e] at this
  exact this
theorem at0_map_range (n:Nat)(g:Nat→Int) (j:Int)(h0:0≤j)(h1:j<(n:Int)):at0 ((List.range n).map g) j=g j.toNat:=by
 obtain⟨m,rfl⟩:=Int.eq_ofNat_of_zero_le h0
 rw[at0_get _ _ (by simp;omega)]
 simp
theorem agr_flip {o:Int} {d s:List Int} (h:rgt o d s 64=true) (a:Int):Agr o d s (flp o d s a) (rfl_ d a):=by
 unfold flp rfl_
 rw[ip h]
 by_cases h0:a<0∨(d.length:Int)≤a
 ·rw[ip h0,ip h0];exact agr_err _ _ _ _ (by decide)
 ·rw[iN h0,iN h0]
  obtain⟨i,rfl⟩:=Int.eq_ofNat_of_zero_le (show 0≤a by omega)
  have hv:=(rgt_ok h).1
  have hi:i<d.length:=by omega
  have hx:=(chk_ok hv.1).2.1 _ (List.getElem_mem hi)
  have ex:=at0_get d i hi
  obtain⟨n,hn⟩:=Int.eq_ofNat_of_zero_le (show 0≤at0 d (i:Int) by omega)
  have hml:((List.range (at0 d (i:Int)).toNat).map fun j:Nat=>at0 d (i:Int)-1-(j:Int)).length=n:=by simp;omega
  have hset:d.set i (n:Int)=d:=by rw[← hn,ex,List.set_getElem_self]
  have hmk:∀ m∈(List.range (at0 d (i:Int)).toNat).map fun j:Nat=>at0 d (i:Int)-1-(j:Int),0≤m∧m<at0 d (i:Int):=fun m hm=>by
   simp only[List.mem_map,List.mem_range] at hm
   obtain⟨j,hj,rfl⟩:=hm
   omega
  rw[rtk_ok hv.1 i hi _ (by omega) (by rw[hml];omega),hml,hset]
  have key:∀ p,inb d p=true→inb d (tkf (i:Int) ((List.range (at0 d (i:Int)).toNat).map fun j:Nat=>at0 d (i:Int)-1-(j:Int)) p)=true∧tkf (i:Int) ((List.range (at0 d (i:Int)).toNat).map fun j:Nat=>at0 d (i:Int)-1-(j:Int)) p=p.set i (at0 d (i:Int)-1-at0 p (i:Int)):=fun p hp=>by
   obtain⟨q1,q2,q3⟩:=tkf_inb i hi _ hmk p (by rw[hml,hset];exact hp)
   rw[hml] at q3
   refine⟨q1,?_⟩
   unfold tkf
   rw[Int.toNat_natCast,at0_map_range _ _ _ q2 (by omega),Int.toNat_of_nonneg q2]
  by_cases h1:1<at0 d (i:Int)
  ·rw[ip h1,Int.toNat_natCast]
   refine agr_pk h hv.1 (by simpa using hv.2.1) (fun p hp=>⟨(key p hp).1,?_⟩)
   rw[(key p hp).2]
   exact flp_ofs o d s p i hi hv.2.1 hp
  ·rw[iN h1]
   refine agr_pk h hv.1 hv.2.1 (fun p hp=>⟨(key p hp).1,?_⟩)
   rw[(key p hp).2]
   have hpl:=inb_length hp
   have hg:=inb_get hp i hi (by omega)
   have ep:=at0_get p i (by omega)
   rw[show at0 d (i:Int)-1-at0 p (i:Int)=p[i] by omega,List.set_getElem_self]
theorem mrk_eq (x start step:Int)(n:Nat):mrk x start step n=if ∀ i:Nat,i<n→0≤start+(i:Int)*step∧start+(i:Int)*step<x then some ((List.range n).map fun i:Nat=>start+(i:Int)*step)else none:=by
 unfold mrk
 by_cases h:∀ i:Nat,i<n→0≤start+(i:Int)*step∧start+(i:Int)*step<x
 ·rw[ip h,ip]
  rw[List.all_eq_true]
  intro i hi
  rw[List.mem_range] at hi
  simpa using h i hi
 ·rw[iN h,iN]
  intro hh
  rw[List.all_eq_true] at hh
  refine h (fun i hi=>?_)
  have:=hh i (by rw[List.mem_range];exact hi)
  simpa using this
/-- All marks are in range just where the last one is. -/
theorem marks_last {x start step:Int} {n:Nat} (hn:1≤n)(h0:0≤start)(h1:start<x):(∀ i:Nat,i<n→0≤start+(i:Int)*step∧start+(i:Int)*step<x) ↔ (0≤start+((n:Int)-1)*step∧start+((n:Int)-1)*step<x):=by
 constructor
 ·intro h
  have:=h (n-1) (by omega)
  rw[show (((n-1:Nat):Int))=(n:Int)-1 by omega] at this
  exact this
 ·rintro⟨l0,l1⟩ i hi
  rcases Int.lt_or_le step 0 with hs|hs
  ·have e1:((n:Int)-1)*step≤(i:Int)*step:=Int.mul_le_mul_of_nonpos_right (by omega) (by omega)
   have e2:(i:Int)*step≤0:=Int.mul_nonpos_of_nonneg_of_nonpos (by omega) (by omega)
   omega
  ·have e1:(i:Int)*step≤((n:Int)-1)*step:=Int.mul_le_mul_of_nonneg_right (by omega) hs
   have e2:0≤(i:Int)*step:=Int.mul_nonneg (by omega) hs
   omega
theorem agr_slice {o:Int} {d s:List Int} (h:rgt o d s 64=true) (a start count step:Int):Agr o d s (vsl o d s a start count step) (rsl d a start count step):=by
 unfold vsl rsl
 rw[ip h]
 by_cases h0:a<0∨(d.length:Int)≤a
 ·rw[ip h0,ip h0];exact agr_err _ _ _ _ (by decide)
 ·rw[iN h0,iN h0]
  obtain⟨i,rfl⟩:=Int.eq_ofNat_of_zero_le (show 0≤a by omega)
  have hv:=(rgt_ok h).1
  have hi:i<d.length:=by omega
  have hx:=(chk_ok hv.1).2.1 _ (List.getElem_mem hi)
  have hx2:=ok_le hv.1 _ (List.getElem_mem hi)
  have ex:=at0_get d i hi
  rw[← ex] at hx hx2
  by_cases c:start<0∨at0 d (i:Int)≤start∨count<1∨at0 d (i:Int)<count
  ·rw[ip (by omega),ip (by omega)];exact agr_err _ _ _ _ (by decide)
  ·obtain⟨n,rfl⟩:=Int.eq_ofNat_of_zero_le (show 0≤count by omega)
   rw[Int.toNat_natCast,Int.toNat_natCast]
   have hml:=marks_last (x:=at0 d (i:Int)) (start:=start) (step:=step) (n:=n) (by omega) (by omega) (by omega)
   by_cases m:∀ j:Nat,j<n→0≤start+(j:Int)*step∧start+(j:Int)*step<at0 d (i:Int)
   ·have hl:=hml.1 m
    have hb:1<(n:Int)→-(at0 d (i:Int))<step∧step<at0 d (i:Int):=fun hn=>by
     have:=m 1 (by omega)
     simp at this
     omega
    by_cases hz:1<(n:Int)∧step=0
    ·rw[ip (.inr (.inr (.inr (.inr ⟨hz.1,.inl hz.2⟩)))),ip (.inr (.inr (.inr (.inr ⟨hz.1,.inl hz.2⟩))))];exact agr_err _ _ _ _ (by decide)
    ·have hA:¬ (start<0∨at0 d (i:Int)≤start∨(n:Int)<1∨at0 d (i:Int)<(n:Int)∨(1<(n:Int)∧(step=0∨at0 d (i:Int)≤step∨step≤-(at0 d (i:Int))∨start+((n:Int)-1)*step<0∨at0 d (i:Int)≤start+((n:Int)-1)*step))):=by omega
     have hB:¬ ((n:Int)<1∨at0 d (i:Int)<(n:Int)∨start<0∨at0 d (i:Int)≤start∨(1<(n:Int)∧(step=0∨64<step∨step < -64))):=by omega
     rw[iN hA,iN hB,mrk_eq,ip m]
     simp only
     have hmk:∀ q∈(List.range n).map fun j:Nat=>start+(j:Int)*step,0≤q∧q<at0 d (i:Int):=fun q hq=>by
      simp only[List.mem_map,List.mem_range] at hq
      obtain⟨j,hj,rfl⟩:=hq
      exact m j hj
     have hlen:((List.range n).map fun j:Nat=>start+(j:Int)*step).length=n:=by simp
     rw[rtk_ok hv.1 i hi _ (by omega) (by rw[hlen,← ex];omega),hlen]
     refine agr_pk (s':=if(n:Int)=1 then s.set i 0 else s.set i (at0 s (i:Int)*step)) h (chk_set hv.1 i hi (n:Int) (by omega) (by rw[← ex];omega)) (by split <;> simp <;> exact hv.2.1) (fun p hp=>?_)
     obtain⟨q1,q2,q3⟩:=tkf_inb i hi _ hmk p (by rw[hlen];exact hp)
     rw[hlen] at q3
     refine⟨q1,?_⟩
     have hpl:=inb_length hp
     rw[List.length_set] at hpl
     have hf:tkf (i:Int) ((List.range n).map fun j:Nat=>start+(j:Int)*step) p=p.set i (start+at0 p (i:Int)*step):=by
      unfold tkf
      rw[Int.toNat_natCast,at0_map_range _ _ _ q2 (by omega),Int.toNat_of_nonneg q2]
     rw[hf]
     have e2:=ofs_set p s i (by omega) (by rw[hv.2.1];omega) (start+at0 p (i:Int)*step) s[i]
     rw[List.set_getElem_self] at e2
     have es:=at0_get s i (by rw[hv.2.1];omega)
     have ep:=at0_get p i (by omega)
     rw[← es,← ep] at e2
     have e3:(start+at0 p (i:Int)*step)*at0 s (i:Int)=start*at0 s (i:Int)+at0 p (i:Int)*(at0 s (i:Int)*step):=by
      rw[Int.add_mul,Int.mul_assoc,Int.mul_comm step]
     have eo:(if 0<start then o+start*at0 s (i:Int)else o)=o+start*at0 s (i:Int):=by
      split
      ·rfl
      ·rw[show start=0 by omega,Int.zero_mul,Int.add_zero]
     rw[eo,e2,e3]
     by_cases hn1:(n:Int)=1
     ·rw[ip hn1]
      have e1:=ofs_set p s i (by omega) (by rw[hv.2.1];omega) p[i] 0
      rw[List.set_getElem_self,← ep,← es] at e1
      have hp0:at0 p (i:Int)=0:=by omega
      rw[e1,hp0]
      simp only[Int.zero_mul,Int.add_zero,Int.sub_zero]
      omega
     ·rw[iN hn1]
      have e1:=ofs_set p s i (by omega) (by rw[hv.2.1];omega) p[i] (at0 s (i:Int)*step)
      rw[List.set_getElem_self,← ep,← es] at e1
      rw[e1]
      omega
   ·have hl:¬ (0≤start+((n:Int)-1)*step∧start+((n:Int)-1)*step<at0 d (i:Int)):=fun hh=>m (hml.2 hh)
    have hn1:1<(n:Int):=by
     apply Decidable.byContradiction
     intro hc
     have:(n:Int)-1=0:=by omega
     rw[this,Int.zero_mul,Int.add_zero] at hl
     omega
    rw[ip (by omega)]
    by_cases hz:step=0∨64<step∨step < -64
    ·rw[ip (by omega)];exact agr_err _ _ _ _ (by decide)
    ·rw[iN (by omega),mrk_eq,iN m];exact agr_err _ _ _ _ (by decide)
theorem ofs_pad (k:Nat)(p t:List Int):ofs p (List.replicate k 0++t)=ofs (p.drop k) t:=by
 induction k generalizing p with
 | zero=>simp
 | succ k ih =>
  cases p with
  | nil=>simp[ofs]
  | cons a p=>rw[List.replicate_succ,List.cons_append,ofs,Int.mul_zero,Int.zero_add,ih,List.drop_succ_cons]
theorem ofs_sat (d s q:List Int)(h:∀ x∈d,1≤x)(hl:s.length=d.length)(hq:q.length=d.length):ofs q (exs d s)=ofs (sat d q) s:=by
 induction d generalizing s q with
 | nil=>cases q <;> simp_all [sat,ofs]
 | cons x d ih =>
  cases s with
  | nil=>simp at hl
  | cons t s =>
   cases q with
   | nil=>simp at hq
   | cons v q =>
    have hx:=h x (by simp)
    simp only[exs,sat,ofs]
    rw[ih s q (fun y hy=>h y (by simp[hy])) (by simpa using hl) (by simpa using hq)]
    by_cases h1:x=1
    ·rw[iN (by omega),ip h1];simp
    ·rw[ip (by omega),iN h1]
theorem agr_expand {o:Int} {d s:List Int} (h:rgt o d s 64=true)(to_:List Int):Agr o d s (vex o d s to_) (rex d to_):=by
 unfold vex rex
 rw[ip h]
 by_cases h1:chk to_=0
 ·rw[ip h1,ip h1]
  by_cases h2:fts d to_=true
  ·rw[ip h2,ip h2]
   obtain⟨f1,f2,f3,f4⟩:=(fts_iff d to_).1 h2
   have hs:=(rgt_ok h).1.2.1
   have e:srcs d to_=nums d to_ fun p=>sat d (p.drop (to_.length-d.length)):=by unfold srcs nums;rw[ip h2]
   rw[e]
   have hd:=(chk_ok f1).2.1
   refine agr_pk h h1 (by simp[exs_length d s hs];omega) (fun p hp=>?_)
   have hpl:=inb_length hp
   have hsub:=sub_drop f4 (to_.length-d.length)
   rw[pad_drop] at hsub
   refine⟨inb_sat d _ _ hsub hd (inb_dropn _ _ hp _),?_⟩
   rw[ofs_pad,ofs_sat d s _ hd hs (by rw[List.length_drop];omega)]
  ·rw[iN h2,iN h2];exact agr_err _ _ _ _ (by decide)
 ·rw[iN h1,iN h1];exact agr_err _ _ _ _ h1
theorem ofs_stp (d p:List Int)(hp:p.length=d.length):ofs p (stp d)=num d p:=by
 induction d generalizing p with
 | nil=>cases p <;> simp_all [ofs,num]
 | cons x d ih =>
  cases p with
  | nil=>simp at hp
  | cons a p=>simp only[stp,ofs,num];rw[ih p (by simpa using hp)]
theorem agr_reshape {o:Int} {d s:List Int} (h:rgt o d s 64=true)(to_:List Int):Agr o d s (vrs o d s to_) (if(rsp d to_).2.2=0∧¬ row (cls o d s 64)=true then((rsp d to_).1,(rsp d to_).2.1,19)else rsp d to_):=by
 unfold vrs rsp
 rw[ip h]
 by_cases h1:chk to_=0
 ·rw[ip h1,ip h1]
  by_cases h2:cnt to_=cnt d
  ·rw[ip h2,ip h2]
   by_cases h3:row (cls o d s 64)=true
   ·rw[ip h3,iN (fun hh=>hh.2 h3)]
    have hv:=(rgt_ok h).1
    have hd:=(chk_ok hv.1).2.1
    have ht:=(chk_ok h1).2.1
    have c1:=cnt_ok h1
    have c2:=cnt_ok hv.1
    rw[← rws_row h,rws_iff d s hd hv.2.1] at h3
    have e:((List.range (cnt d).toNat).map fun i:Nat=>(i:Int))=nums d to_ fun p=>dig d (num to_ p):=by
     unfold nums
     rw[alls_ok h1]
     unfold pre
     rw[List.map_map]
     have:(prod to_).toNat=(cnt d).toNat:=by omega
     rw[this]
     apply List.map_congr_left
     intro i hi
     rw[List.mem_range] at hi
     simp only[Function.comp]
     rw[num_dig_lt to_ ht _ (by omega) (by omega),num_dig_lt d hd _ (by omega) (by omega)]
    rw[e]
    refine agr_pk h h1 (stp_length to_) (fun p hp=>⟨inb_dig d hd _,?_⟩)
    obtain⟨n1,n2⟩:=num_lt to_ p ht hp
    rw[ofs_stp to_ p (inb_length hp),h3 _ n1 (by omega)]
   ·rw[iN h3,ip ⟨rfl,h3⟩]
    exact⟨fun hh=>absurd hh (by simp),fun _=>rfl⟩
  ·rw[iN h2,iN h2,iN (fun hh=>absurd hh.1 (by simp))];exact agr_err _ _ _ _ (by decide)
 ·rw[iN h1,iN h1,iN (fun hh=>h1 hh.1)];exact agr_err _ _ _ _ h1
/-- What is seen, by the primitive. -/
def sen (o:Int)(d s:List Int)(op n a b c:Int)(l:List Int):Int×List Int×List Int×Int :=
 if op=33 then vrs o d s l else if op=34 then pmt o d s l else if op=35 then vsl o d s n a b c else if op=36 then vex o d s l else flp o d s n
def ses (d:List Int)(op n a b c:Int)(l:List Int):List Int×List Int×Int :=
 if op=33 then rsp d l else if op=34 then rpm d l else if op=35 then rsl d n a b c else if op=36 then rex d l else rfl_ d n
theorem agr_sen {o:Int} {d s:List Int} (h:rgt o d s 64=true) (op n a b c:Int)(l:List Int)(hr:op=33→row (cls o d s 64)=true):Agr o d s (sen o d s op n a b c l) (ses d op n a b c l):=by
 unfold sen ses
 by_cases h1:op=33
 ·rw[ip h1,ip h1]
  have:=agr_reshape h l
  rwa [iN (fun hh=>hh.2 (hr h1))] at this
 ·rw[iN h1,iN h1]
  by_cases h2:op=34
  ·rw[ip h2,ip h2];exact agr_permute h l
  ·rw[iN h2,iN h2]
   by_cases h3:op=35
   ·rw[ip h3,ip h3];exact agr_slice h n a b c
   ·rw[iN h3,iN h3]
    by_cases h4:op=36
    ·rw[ip h4,ip h4];exact agr_expand h l
    ·rw[iN h4,iN h4];exact agr_flip h n
theorem rtk_right (d:List Int)(n:Int)(l:List Int):((rtk d n l).2.2=0→chk (rtk d n l).1=0)∧((rtk d n l).2.2≠0→(rtk d n l).1=[]):=by
 unfold rtk
 by_cases h:(withd d n (l.length:Int)).2=0
 ·obtain⟨w1,w2,w3,w4,w5⟩:=withd_o29 h
  rw[ip h,w5]
  exact⟨fun _=>w4,fun hh=>absurd rfl hh⟩
 ·rw[iN h]
  exact⟨fun hh=>absurd hh h,fun _=>rfl⟩
theorem ses_right (d:List Int)(op n a b c:Int)(l:List Int):((ses d op n a b c l).2.2=0→chk (ses d op n a b c l).1=0)∧((ses d op n a b c l).2.2≠0→(ses d op n a b c l).1=[]):=by
 unfold ses
 split
 ·unfold rsp
  by_cases h:chk l=0
  ·rw[ip h];split
   ·exact⟨fun _=>h,fun hh=>absurd rfl hh⟩
   ·exact⟨fun hh=>absurd hh (by decide),fun _=>rfl⟩
  ·rw[iN h];exact⟨fun hh=>absurd hh h,fun _=>rfl⟩
 ·split
  ·unfold rpm
   by_cases h:(perm d l).2=0
   ·rw[ip h];exact⟨fun _=>(perm_ok h).2.2.2.1,fun hh=>absurd rfl hh⟩
   ·rw[iN h];exact⟨fun hh=>absurd hh h,fun _=>rfl⟩
  ·split
   ·unfold rsl
    split
    ·exact⟨fun hh=>absurd hh (by decide),fun _=>rfl⟩
    ·split
     ·exact⟨fun hh=>absurd hh (by decide),fun _=>rfl⟩
     ·split
      ·exact rtk_right _ _ _
      ·exact⟨fun hh=>absurd hh (by decide),fun _=>rfl⟩
   ·split
    ·unfold rex
     by_cases h:chk l=0
     ·rw[ip h];split
      ·exact⟨fun _=>h,fun hh=>absurd rfl hh⟩
      ·exact⟨fun hh=>absurd hh (by decide),fun _=>rfl⟩
     ·rw[iN h];exact⟨fun hh=>absurd hh h,fun _=>rfl⟩
    ·unfold rfl_
     split
     ·exact⟨fun hh=>absurd hh (by decide),fun _=>rfl⟩
     ·exact rtk_right _ _ _
theorem sen_whole {d:List Int} (h:chk d=0) (op n a b c:Int)(l:List Int):(sen 0 d (stp d) op n a b c l).2.1=(ses d op n a b c l).1∧(sen 0 d (stp d) op n a b c l).2.2.2=(ses d op n a b c l).2.2:=by
 have hg:=agr_sen (whole_rgt h) op n a b c l (fun _=>whole_row h)
 by_cases e:(ses d op n a b c l).2.2=0
 ·obtain⟨a1,a2,_⟩:=hg.1 e
  exact⟨a2,by rw[a1,e]⟩
 ·rw[hg.2 e]
  exact⟨((ses_right d op n a b c l).2 e).symm,rfl⟩
/-- The first thing that is wrong with dims. -/
def fchk:List (List Int)→Int
 | []=>0
 | d::l=>if chk d=0 then fchk l else chk d
theorem fchk_all {l:List (List Int)} (h:fchk l=0):∀ d∈l,chk d=0:=by
 induction l with
 | nil=>simp
 | cons d l ih =>
  unfold fchk at h
  split at h
  ·rename_i h1
   intro x hx
   rcases List.mem_cons.1 hx with rfl|hx
   ·exact h1
   ·exact ih h x hx
  ·exact absurd h (by assumption)
/-- Are they alike but at the axis, from the i-th one on? -/
def jok (n:Int)(a b:List Int)(i:Nat):Bool:=(List.range (a.length-i)).all fun j=>decide (((i+j:Nat):Int)=n) || decide (at0 a ((i+j:Nat):Int)=at0 b ((i+j:Nat):Int))
theorem jok_end (n:Int)(a b:List Int):jok n a b a.length=true:=by unfold jok;simp
theorem jok_step (n:Int)(a b:List Int)(i:Nat)(h:i<a.length):jok n a b i=((decide ((i:Int)=n) || decide (at0 a (i:Int)=at0 b (i:Int))) && jok n a b (i+1)):=by
 unfold jok
 rw[show a.length-i=(a.length-(i+1))+1 by omega,List.range_succ_eq_map,List.all_cons,List.all_map,Nat.add_zero]
 congr 2
 funext j
 simp only[Function.comp,Nat.succ_eq_add_one]
 rw[show i+(j+1)=i+1+j by omega]
def joind (a b:List Int)(n:Int):List Int×Int :=
 if n<0∨(a.length:Int)≤n then([],10)else if a.length=b.length then(if jok n a b 0=true then withd a n (at0 a n+at0 b n)else([],8))else([],8)
def mvd (op n a b c:Int)(l:List Int)(dims:List (List Int)):List Int×Int :=
 if 33≤op∧op≤40 then(if(dims.length:Int)=(if op=40 then 2 else 1)then(if fchk dims=0 then
  (if op=38 then takd (dims.getD 0 []) n l else if op=39 then putd (dims.getD 0 []) n a l else if op=40 then joind (dims.getD 0 []) (dims.getD 1 []) n else((ses (dims.getD 0 []) op n a b c l).1,(ses (dims.getD 0 []) op n a b c l).2.2))
  else([],fchk dims))else([],1))else([],14)
/-- Dims that may be, or none, and what is wrong. -/
def Rgt (r:List Int×Int):Prop:=(r.2=0→chk r.1=0)∧(r.2≠0→r.1=[])
theorem rgt_err (e:Int)(h:e≠0):Rgt ([],e):=⟨fun hh=>absurd hh h,fun _=>rfl⟩
theorem rgt_withd (d:List Int)(n a:Int):Rgt (withd d n a):=by
 by_cases h:(withd d n a).2=0
 ·obtain⟨w1,w2,w3,w4,w5⟩:=withd_o29 h
  rw[w5];exact⟨fun _=>w4,fun hh=>absurd rfl hh⟩
 ·refine⟨fun hh=>absurd hh h,fun _=>?_⟩
  unfold withd at h ⊢
  split
  ·rename_i h1
   rw[ip h1] at h
   split
   ·rfl
   ·rename_i h2
    rw[iN h2] at h
    split
    ·rename_i h3;rw[ip h3] at h;exact absurd rfl h
    ·rfl
  ·rfl
theorem rgt_putd (d:List Int)(n a:Int)(l:List Int):Rgt (putd d n a l):=by
 refine⟨fun h=>?_,fun h=>putd_err h⟩
 obtain⟨w1,w2,w3,w4,w5,w6,w7⟩:=putd_ok h
 rw[w7];exact w4
theorem rgt_takd (d:List Int)(n:Int)(l:List Int):Rgt (takd d n l):=by
 unfold takd
 split
 ·exact rgt_err _ (by decide)
 ·split
  ·exact rgt_withd _ _ _
  ·exact rgt_err _ (by decide)
theorem rgt_joind (a b:List Int)(n:Int):Rgt (joind a b n):=by
 unfold joind
 split
 ·exact rgt_err _ (by decide)
 ·split
  ·split
   ·exact rgt_withd _ _ _
   ·exact rgt_err _ (by decide)
  ·exact rgt_err _ (by decide)
theorem rgt_mvd (op n a b c:Int)(l:List Int)(dims:List (List Int)):Rgt (mvd op n a b c l dims):=by
 unfold mvd
 by_cases h1:33≤op∧op≤40
 ·rw[ip h1]
  by_cases h2:(dims.length:Int)=(if op=40 then 2 else 1)
  ·rw[ip h2]
   by_cases h3:fchk dims=0
   ·rw[ip h3]
    by_cases h4:op=38
    ·rw[ip h4];exact rgt_takd _ _ _
    ·rw[iN h4]
     by_cases h5:op=39
     ·rw[ip h5];exact rgt_putd _ _ _ _
     ·rw[iN h5]
      by_cases h6:op=40
      ·rw[ip h6];exact rgt_joind _ _ _
      ·rw[iN h6];exact ses_right _ _ _ _ _ _ _
   ·rw[iN h3];exact rgt_err _ h3
  ·rw[iN h2];exact rgt_err _ (by decide)
 ·rw[iN h1];exact rgt_err _ (by decide)
theorem rgt_drop (d l:List Int)(keep:Bool)(hm:(axs d.length l).2=0→(axs d.length l).1.length=d.length):Rgt (drop d l keep):=by
 unfold drop
 by_cases h:chk d=0
 ·rw[ip h]
  by_cases h2:(axs d.length l).2=0
  ·rw[ip h2]
   exact⟨fun _=>(drp_ok keep _ d (hm h2) h).1,fun hh=>absurd rfl hh⟩
  ·rw[iN h2];exact rgt_err _ h2
 ·rw[iN h];exact rgt_err _ h
/-- Any number of dims, from left to right. -/
def mny:List Int→List (List Int)→List Int×Int
 | o,[]=>(o,0)
 | o,d::l=>if(two o d).2=0 then mny (two o d).1 l else([],(two o d).2)
theorem rgt_mny (l:List (List Int)):∀ o:List Int,chk o=0→Rgt (mny o l):=by
 induction l with
 | nil=>intro o h;exact⟨fun _=>h,fun hh=>absurd rfl hh⟩
 | cons d l ih =>
  intro o h
  unfold mny
  by_cases e:(two o d).2=0
  ·rw[ip e]
   exact ih _ (two_ok (a:=o) (b:=d) (x:=(two o d).1) (by rw[← e])).2.2.2.1
  ·rw[iN e];exact rgt_err _ e
def mmz (a b:List Int):List Int:=(two (a.take (a.length-2)) (b.take (b.length-2))).1++[at0 a ((a.length:Int)-2),at0 b ((b.length:Int)-1)]
def mmd (a b:List Int):List Int×Int :=
 if fchk [a,b]=0 then(if a.length<2∨b.length<2 then([],9)else if at0 a ((a.length:Int)-1)=at0 b ((b.length:Int)-2)then
  (if(two (a.take (a.length-2)) (b.take (b.length-2))).2=0 then(if chk (mmz a b)=0 then(mmz a b,0)else([],chk (mmz a b)))else([],(two (a.take (a.length-2)) (b.take (b.length-2))).2))else([],8))else([],fchk [a,b])
theorem rgt_mmd (a b:List Int):Rgt (mmd a b):=by
 unfold mmd
 split
 ·split
  ·exact rgt_err _ (by decide)
  ·split
   ·split
    ·split
     ·rename_i h;exact⟨fun _=>h,fun hh=>absurd rfl hh⟩
     ·rename_i h;exact rgt_err _ h
    ·rename_i h;exact rgt_err _ h
   ·exact rgt_err _ (by decide)
 ·rename_i h;exact rgt_err _ h
def ari (op:Int):Int:=if 1≤op∧op≤40 then(if(17≤op∧op≤23)∨op=32∨op=40 then 2 else if 24≤op∧op≤26 then 3 else 1)else 0
def kls (op:Int):Int:=if 1≤op∧op≤40 then(if op<27 then 1 else if op<32 then 2 else if op=32 then 3 else if op≤37 then 4 else 5)else 0
def cst (p q:Int):Bool:=decide (-1048576≤p) && decide (p≤1048576) && decide (1≤q) && decide (q≤1048576)
def atr (op n p q r s:Int)(f:Int→Int→Int→Int→Bool):Bool :=
 if op=12 then decide (-8≤n) && decide (n≤8)else if op=13∨op=14∨op=16 then cst p q else if op=15 then cst p q && cst r s && f p q r s else decide (1≤op∧op≤40)
def axes (op n:Int)(l:List Int):List Int:=if op=27∨op=28 then l else [n]
def ifd (f:Int→Int→Int→Int→Bool) (op n a b c p q r s:Int)(kp:Bool)(l:List Int)(dims:List (List Int)):List Int×Int :=
 if 1≤op∧op≤40 then(if(dims.length:Int)=ari op then(if fchk dims=0 then(if atr op n p q r s f=true then
  (if kls op=1 then mny [] dims else if kls op=2 then drop (dims.getD 0 []) (axes op n l) kp else if kls op=3 then mmd (dims.getD 0 []) (dims.getD 1 [])else mvd op n a b c l dims)
  else([],1))else([],fchk dims))else([],1))else([],14)
theorem rgt_ifd (f:Int→Int→Int→Int→Bool) (op n a b c p q r s:Int)(kp:Bool)(l:List Int)(dims:List (List Int))(hm:∀ d m:List Int,(axs d.length m).2=0→(axs d.length m).1.length=d.length):Rgt (ifd f op n a b c p q r s kp l dims):=by
 unfold ifd
 split
 ·split
  ·split
   ·split
    ·split
     ·exact rgt_mny _ _ (by decide)
     ·split
      ·exact rgt_drop _ _ _ (hm _ _)
      ·split
       ·exact rgt_mmd _ _
       ·exact rgt_mvd _ _ _ _ _ _ _
    ·exact rgt_err _ (by decide)
   ·rename_i h;exact rgt_err _ h
  ·exact rgt_err _ (by decide)
 ·exact rgt_err _ (by decide)
def putv (d:List Int)(n a:Int)(l:List Int):List Int×List Int×List Int×Int :=
 if(putd d n a l).2=0 then((putd d n a l).1,[],(alls d).map (fun p=>plr (putd d n a l).1 (mvp n l p)),0)else([],[],[],(putd d n a l).2)
def jnw (a:List Int)(n:Int)(p:List Int):Int:=if at0 p n<at0 a n then 0 else 1
def jnf (a b:List Int)(n:Int)(p:List Int):Int:=if at0 p n<at0 a n then plr a p else plr b (p.set n.toNat (at0 p n-at0 a n))
def joinv (a b:List Int)(n:Int):List Int×List Int×List Int×Int :=
 if(joind a b n).2=0 then((joind a b n).1,(alls (joind a b n).1).map (jnw a n),(alls (joind a b n).1).map (jnf a b n),0)else([],[],[],(joind a b n).2)
def sgl (d:List Int)(op n a b c:Int)(l:List Int):List Int×List Int×Int :=
 if op=38 then(if n<0∨(d.length:Int)≤n then([],[],10)else if inr l (at0 d n)=true then rtk d n l else([],[],11))else ses d op n a b c l
def ofv (op n a b c:Int)(l:List Int)(dims:List (List Int)):List Int×List Int×List Int×Int :=
 if 33≤op∧op≤40 then(if(dims.length:Int)=(if op=40 then 2 else 1)then(if fchk dims=0 then
  (if op=39 then putv (dims.getD 0 []) n a l else if op=40 then joinv (dims.getD 0 []) (dims.getD 1 []) n else
   if(sgl (dims.getD 0 []) op n a b c l).2.2=0 then((sgl (dims.getD 0 []) op n a b c l).1,List.replicate (sgl (dims.getD 0 []) op n a b c l).2.1.length 0,(sgl (dims.getD 0 []) op n a b c l).2.1,0)else([],[],[],(sgl (dims.getD 0 []) op n a b c l).2.2))
  else([],[],[],fchk dims))else([],[],[],1))else([],[],[],14)
theorem sgl_tak (d:List Int)(n a b c:Int)(l:List Int):(sgl d 38 n a b c l).1=(takd d n l).1∧(sgl d 38 n a b c l).2.2=(takd d n l).2:=by
 unfold sgl takd
 rw[ip rfl]
 by_cases h1:n<0∨(d.length:Int)≤n
 ·rw[ip h1,ip h1];exact⟨rfl,rfl⟩
 ·rw[iN h1,iN h1]
  by_cases h2:inr l (at0 d n)=true
  ·rw[ip h2,ip h2]
   unfold rtk
   by_cases h3:(withd d n (l.length:Int)).2=0
   ·rw[ip h3];exact⟨rfl,h3.symm⟩
   ·rw[iN h3];exact⟨((rgt_withd d n (l.length:Int)).2 h3).symm,rfl⟩
  ·rw[iN h2,iN h2];exact⟨rfl,rfl⟩
theorem ofv_mvd (op n a b c:Int)(l:List Int)(dims:List (List Int)):(ofv op n a b c l dims).1=(mvd op n a b c l dims).1∧(ofv op n a b c l dims).2.2.2=(mvd op n a b c l dims).2:=by
 unfold ofv mvd
 by_cases h1:33≤op∧op≤40
 ·rw[ip h1,ip h1]
  by_cases h2:(dims.length:Int)=(if op=40 then 2 else 1)
  ·rw[ip h2,ip h2]
   by_cases h3:fchk dims=0
   ·rw[ip h3,ip h3]
    by_cases h5:op=39
    ·rw[ip h5,iN (by omega),ip h5]
     unfold putv
     by_cases g:(putd (dims.getD 0 []) n a l).2=0
     ·rw[ip g];exact⟨rfl,g.symm⟩
     ·rw[iN g];exact⟨((rgt_putd _ n a l).2 g).symm,rfl⟩
    ·rw[iN h5]
     by_cases h6:op=40
     ·rw[ip h6,iN (by omega),iN h5,ip h6]
      unfold joinv
      by_cases g:(joind (dims.getD 0 []) (dims.getD 1 []) n).2=0
      ·rw[ip g];exact⟨rfl,g.symm⟩
      ·rw[iN g];exact⟨((rgt_joind _ _ n).2 g).symm,rfl⟩
     ·rw[iN h6]
      have e:(sgl (dims.getD 0 []) op n a b c l).1=(if op=38 then takd (dims.getD 0 []) n l else if op=39 then putd (dims.getD 0 []) n a l else if op=40 then joind (dims.getD 0 []) (dims.getD 1 []) n else((ses (dims.getD 0 []) op n a b c l).1,(ses (dims.getD 0 []) op n a b c l).2.2)).1∧(sgl (dims.getD 0 []) op n a b c l).2.2=(if op=38 then takd (dims.getD 0 []) n l else if op=39 then putd (dims.getD 0 []) n a l else if op=40 then joind (dims.getD 0 []) (dims.getD 1 []) n else((ses (dims.getD 0 []) op n a b c l).1,(ses (dims.getD 0 []) op n a b c l).2.2)).2:=by
       by_cases h4:op=38
       ·rw[ip h4];subst h4;exact sgl_tak _ _ _ _ _ _
       ·rw[iN h4,iN h5,iN h6];unfold sgl;rw[iN h4];exact⟨rfl,rfl⟩
      have hr:=rgt_mvd op n a b c l dims
      unfold mvd at hr
      rw[ip h1,ip h2,ip h3] at hr
      by_cases g:(sgl (dims.getD 0 []) op n a b c l).2.2=0
      ·rw[ip g];exact⟨e.1,by rw[← e.2,g]⟩
      ·rw[iN g];exact⟨(hr.2 (by rw[← e.2];exact g)).symm,e.2⟩
   ·rw[iN h3,iN h3];exact⟨rfl,rfl⟩
  ·rw[iN h2,iN h2];exact⟨rfl,rfl⟩
 ·rw[iN h1,iN h1];exact⟨rfl,rfl⟩
end G
namespace Go.Proofs.Ytcdiobcldhiemaa.S
open Go.RowKit Go.Proofs.Ytcdiobcldhiemaa.Q Go.Proofs.YtcdiobcldhiemaaW.PrintWords Go.Proofs.YtcdiobcldhiemaaW.PrintLast Go.Proofs.YtcdiobcldhiemaaW.PrintMore
set_option linter.unusedVariables false
set_option linter.unusedSimpArgs false
theorem w64 {x:Int} (h0:-9223372036854775808≤x)(h1:x≤9223372036854775807):wrap64 x=x:=by
 unfold wrap64;omega
theorem down (P:Nat→Prop)(n:Nat)(h0:P n)(hs:∀ i,i<n→P (i+1)→P i):∀ i,i≤n→P i:=by
 intro i hi
 obtain⟨d,rfl⟩:∃ d,n=i+d:=⟨n-i,by omega⟩
 clear hi
 induction d generalizing i with
 | zero=>exact h0
 | succ d ih =>
  apply hs i (by omega)
  exact ih (i+1) (by rw[show i+1+d=i+(d+1) by omega];exact h0) (fun j hj hp=>hs j (by omega) hp)
theorem rdg (l:List Int)(i:Nat)(h:i<l.length):rd l (i:Int)=l[i]:=by
 simp[rd,List.getD_eq_getElem?_getD,List.getElem?_eq_getElem h]
theorem rdb (l:List Bool)(i:Nat)(h:i<l.length):rdOf false l (i:Int)=l[i]:=by
 simp[rdOf,List.getD_eq_getElem?_getD,List.getElem?_eq_getElem h]
theorem dropc (l:List Int)(i:Nat)(h:i<l.length):l.drop i=rd l (i:Int)::l.drop (i+1):=by
 rw[rdg l i h];exact(List.drop_eq_getElem_cons h)
theorem nx (i n:Nat)(h:i<n)(hn:n≤1000000000):wrap64 ((i:Int)+1)=((i+1:Nat):Int):=by
 rw[w64 (by omega) (by omega)];omega
theorem ints_l (a b:List Int)(hl:a.length=b.length)(hn:a.length≤1000000000):∀ i,i≤a.length →
  Ev (fun k=>fae.l0 k a b (a.length:Int) (i:Int)) (decide (a.drop i=b.drop i)):=by
 apply down
 ·refine Es (f:=fun _=>some true) (fun k=>?_) ?_
  ·rw[fae.l0,iN (by omega)]
  ·rw[List.drop_length,hl,List.drop_length];exact En true
 ·intro i hi ih
  rw[dropc a i hi,dropc b i (by omega)]
  by_cases e:rd a (i:Int)=rd b (i:Int)
  ·rw[show decide (rd a (i:Int)::a.drop (i+1)=rd b (i:Int)::b.drop (i+1))=decide (a.drop (i+1)=b.drop (i+1)) by simp[e]]
   refine Es (fun k=>?_) ih
   rw[fae.l0,ip (by omega),ip (by omega),ip (by omega),ip (by omega),ip e,nx i _ hi hn]
  ·rw[show decide (rd a (i:Int)::a.drop (i+1)=rd b (i:Int)::b.drop (i+1))=false by simp[e]]
   refine Es (fun k=>?_) (En false)
   rw[fae.l0,ip (by omega),ip (by omega),ip (by omega),ip (by omega),iN e]
theorem ints (a b:List Int)(hn:a.length≤1000000000):Ev (fun k=>fae.f k a b) (decide (a=b)):=by
 by_cases hl:a.length=b.length
 ·refine Ec (fun k=>?_) (by have:=ints_l a b hl hn 0 (by omega);simpa using this)
  rw[fae.f,ip (by omega)]
 ·rw[show decide (a=b)=false from decide_eq_false (fun e=>hl (by rw[e]))]
  refine Ec (fun k=>?_) (En false)
  rw[fae.f,iN (by omega)]
theorem ints_eq {a b:List Int} (h:a=b)(hn:a.length≤1000000000):Ev (fun k=>fae.f k a b) true:=by
 have:=ints a b hn
 rwa [show decide (a=b)=true by simp[h]] at this
theorem shape_check (d:List Int):fcg.f d=some (G.chk d):=rfl
theorem check_1 (d:List Int)(hok:∀ x∈d,1≤x)(hn:d.length≤6):∀ i,i≤d.length→G.prod (d.take i)≤64 →
  Ev (fun k=>fag.l1 k d (G.prod (d.take i)) (d.length:Int) (i:Int)) (if 64<G.prod d then 12 else 0):=by
 apply down
 ·intro h
  rw[List.take_length] at h ⊢
  rw[iN (by omega)]
  refine Es (fun k=>?_) (En 0)
  rw[fag.l1,iN (by omega)]
 ·intro i hi ih h
  have hp:=G.prod_pos (d.take i) (fun x hx=>hok x (List.mem_of_mem_take hx))
  have hs:=G.prod_take_succ d i hi
  have h1:1≤d[i]:=hok _ (List.getElem_mem hi)
  have hle:=G.prod_take_le d hok (i+1)
  have hge:d[i]≤G.prod (d.take i)*d[i]:=by
   have:1*d[i]≤G.prod (d.take i)*d[i]:=Int.mul_le_mul_of_nonneg_right hp (by omega)
   omega
  by_cases e:64<d[i]
  ·rw[ip (by omega)]
   refine Es (fun k=>?_) (En 12)
   rw[fag.l1,ip (by omega),ip (by omega),ip (by omega),rdg d i hi,ip (by omega)]
  ·have hb:G.prod (d.take i)*d[i]≤64*64:=Int.mul_le_mul h (by omega) (by omega) (by omega)
   by_cases e2:64<G.prod (d.take i)*d[i]
   ·rw[ip (by omega)]
    refine Es (fun k=>?_) (En 12)
    rw[fag.l1,ip (by omega),ip (by omega),ip (by omega),rdg d i hi,iN (by omega),w64 (by omega) (by omega),ip (by omega)]
   ·refine Es (fun k=>?_) (ih (by omega))
    rw[fag.l1,ip (by omega),ip (by omega),ip (by omega),rdg d i hi,iN (by omega),w64 (by omega) (by omega),iN (by omega),nx i _ hi (by omega),← hs]
theorem check_0 (d:List Int)(hn:d.length≤6):∀ i,i≤d.length→(∀ x∈d.take i,1≤x) →
  Ev (fun k=>fag.l0 k d (d.length:Int) (i:Int)) (G.chk d):=by
 apply down
 ·intro h
  rw[List.take_length] at h
  have e:G.chk d=if 64<G.prod d then 12 else 0:=by
   unfold G.chk
   rw[iN (by omega),iN]
   rw[Bool.not_eq_true,List.any_eq_false]
   intro x hx
   have:=h x hx
   simp;omega
  rw[e]
  refine Es (fun k=>?_) (check_1 d h hn 0 (by omega) (by simp[G.prod]))
  rw[fag.l0,iN (by omega)];simp[G.prod]
 ·intro i hi ih h
  by_cases e:d[i]<1
  ·have e8:G.chk d=8:=by
    unfold G.chk
    rw[iN (by omega),ip]
    rw[List.any_eq_true]
    exact⟨d[i],List.getElem_mem hi,by simpa using e⟩
   rw[e8]
   refine Es (fun k=>?_) (En 8)
   rw[fag.l0,ip (by omega),ip (by omega),ip (by omega),rdg d i hi,ip (by omega)]
  ·refine Es (fun k=>?_) (ih ?_)
   ·rw[fag.l0,ip (by omega),ip (by omega),ip (by omega),rdg d i hi,iN (by omega),nx i _ hi (by omega)]
   ·intro x hx
    rw[List.take_succ_eq_append_getElem hi,List.mem_append] at hx
    rcases hx with hx|hx
    ·exact h x hx
    ·simp at hx;omega
theorem ref_check (d:List Int):Ev (fun k=>fag.f k d) (G.chk d):=by
 by_cases h:6<d.length
 ·have e:G.chk d=9:=by unfold G.chk;rw[ip h]
  rw[e]
  refine Ec (fun k=>?_) (En 9)
  rw[fag.f,ip (by omega)]
 ·refine Ec (fun k=>?_) (check_0 d (by omega) 0 (by omega) (by simp))
  rw[fag.f,iN (by omega)];rfl
theorem prod_step {d:List Int} (hok:G.chk d=0)(i:Nat)(hi:i<d.length) :
  1≤G.prod (d.take i)∧G.prod (d.take i)*d[i]=G.prod (d.take (i+1))∧G.prod (d.take (i+1))≤64∧1≤G.prod (d.take (i+1)):=by
 obtain⟨h6,h1,h2⟩:=G.chk_ok hok
 have:=G.prod_take_le d h1 (i+1)
 exact⟨G.prod_pos _ (fun x hx=>h1 x (List.mem_of_mem_take hx)),(G.prod_take_succ d i hi).symm,by omega,G.prod_pos _ (fun x hx=>h1 x (List.mem_of_mem_take hx))⟩
theorem count_l (d:List Int)(hok:G.chk d=0):∀ i,i≤d.length →
  Ev (fun k=>fch.l0 k (G.prod (d.take i)) d (d.length:Int) (i:Int)) (G.prod d):=by
 obtain⟨h6,h1,h2⟩:=G.chk_ok hok
 apply down
 ·rw[List.take_length]
  refine Es (fun k=>?_) (En _)
  rw[fch.l0,iN (by omega)]
 ·intro i hi ih
  obtain⟨p1,p2,p3,p4⟩:=prod_step hok i hi
  refine Es (fun k=>?_) ih
  rw[fch.l0,ip (by omega),ip (by omega),ip (by omega),rdg d i hi,w64 (by omega) (by omega),nx i _ hi (by omega),p2]
theorem shape_count (d:List Int):Ev (fun k=>fch.f k d) (G.cnt d):=by
 unfold G.cnt
 by_cases h:G.chk d=0
 ·rw[ip h]
  refine Ec (fun k=>?_) (count_l d h 0 (by omega))
  rw[fch.f,shape_check,Option.bind_some,ip h];simp[G.prod]
 ·rw[iN h]
  refine Ec (fun k=>?_) (En 0)
  rw[fch.f,shape_check,Option.bind_some,iN h]
theorem steps_set (d x:List Int)(i:Nat)(hi:i<d.length)(hl:x.length=d.length)(hx:x.drop (i+1)=G.stp (d.drop (i+1))) :
  (x.set i (G.prod (d.drop (i+1)))).drop i=G.stp (d.drop i):=by
 rw[List.drop_eq_getElem_cons (by simp;omega),List.drop_eq_getElem_cons hi]
 simp only[List.getElem_set_self,G.stp,List.cons.injEq,true_and]
 rw[List.drop_set_of_lt (by omega)]
 exact hx
theorem steps_l (d:List Int)(hok:G.chk d=0):∀ i,i≤d.length→∀ x:List Int,x.length=d.length→x.drop i=G.stp (d.drop i) →
  Ev (fun k=>fcl.l0 k d x (G.prod (d.drop i)) ((i:Int)-1)) (G.stp d):=by
 obtain⟨h6,h1,h2⟩:=G.chk_ok hok
 intro i
 induction i with
 | zero =>
  intro hi x hl hx
  simp at hx
  subst hx
  refine Es (fun k=>?_) (En _)
  rw[fcl.l0,iN (by omega)]
 | succ i ih =>
  intro hi x hl hx
  have hlt:i<d.length:=by omega
  have hd:d.drop i=d[i]::d.drop (i+1):=List.drop_eq_getElem_cons hlt
  obtain⟨q6,q1,q2⟩:=G.chk_ok (G.ok_drop hok i)
  have q3:=G.prod_pos _ q1
  have hp:G.prod (d.drop i)=G.prod (d.drop (i+1))*d[i]:=by rw[hd];simp only[G.prod];rw[Int.mul_comm]
  refine Es (fun k=>?_) (ih (by omega) (x.set i (G.prod (d.drop (i+1)))) (by simp[hl]) (steps_set d x i hlt hl hx))
  rw[fcl.l0,show (((i+1:Nat):Int)-1)=(i:Int) by omega,ip (by omega),ip (by omega),ip (by omega),ip (by omega),rdg d i hlt,← hp,w64 (by omega) (by omega),w64 (by omega) (by omega),Int.toNat_natCast]
theorem shape_steps (d:List Int):Ev (fun k=>fcl.f k d) (G.steps d):=by
 unfold G.steps
 by_cases h:G.chk d=0
 ·rw[ip h]
  obtain⟨h6,h1,h2⟩:=G.chk_ok h
  refine Ec (fun k=>?_) (steps_l d h d.length (by omega) (List.replicate d.length 0) (by simp) (by simp[G.stp]))
  rw[fcl.f,shape_check,Option.bind_some,ip h,ip (by omega),ip (by simp;omega),w64 (by omega) (by omega)]
  simp[G.prod]
 ·rw[iN h]
  refine Ec (fun k=>?_) (En _)
  rw[fcl.f,shape_check,Option.bind_some,iN h]
theorem has_l (l:List Int)(x:Int)(hn:l.length≤1000000000):∀ i,i≤l.length →
  Ev (fun k=>faj.l0 k l x (l.length:Int) (i:Int)) ((l.drop i).contains x):=by
 apply down
 ·rw[List.drop_length]
  refine Es (fun k=>?_) (En _)
  rw[faj.l0,iN (by omega)];rfl
 ·intro i hi ih
  rw[dropc l i hi,List.contains_cons]
  by_cases e:rd l (i:Int)=x
  ·rw[show (x==rd l (i:Int))=true by simp[e],Bool.true_or]
   refine Es (fun k=>?_) (En true)
   rw[faj.l0,ip (by omega),ip (by omega),ip (by omega),ip e]
  ·rw[show (x==rd l (i:Int))=false by simp;exact fun h=>e h.symm,Bool.false_or]
   refine Es (fun k=>?_) ih
   rw[faj.l0,ip (by omega),ip (by omega),ip (by omega),iN e,nx i _ hi hn]
theorem has (l:List Int)(x:Int)(hn:l.length≤1000000000):Ev (fun k=>faj.f k l x) (l.contains x):=by
 exact has_l l x hn 0 (by omega)
theorem contains_snoc (s:List Int)(a x:Int):(s++[a]).contains x=(s.contains x || x==a):=by
 simp[List.contains_eq_mem,List.mem_append,Bool.decide_or]
 rfl
theorem marks_set (r:Nat)(s:List Int)(a:Int)(h0:0≤a)(h1:a<r):(G.marks r s).set a.toNat true=G.marks r (s++[a]):=by
 apply List.ext_getElem (by simp[G.marks])
 intro j hj hj2
 simp only[G.marks,List.getElem_set,List.getElem_map,List.getElem_range,contains_snoc]
 by_cases e:a.toNat=j
 ·rw[ip e,show ((j:Int)==a)=true by simp;omega,Bool.or_true]
 ·rw[iN e,show ((j:Int)==a)=false by simp;omega,Bool.or_false]
theorem marks_at (r:Nat)(s:List Int)(a:Int)(h0:0≤a)(h1:a<r):rdOf false (G.marks r s) a=s.contains a:=by
 obtain⟨n,rfl⟩:=Int.eq_ofNat_of_zero_le h0
 rw[rdb _ n (by simp[G.marks];omega)]
 simp[G.marks]
theorem marks_length (r:Nat)(s:List Int):(G.marks r s).length=r:=by simp[G.marks]
theorem mks_length (r:Nat)(s:List Int):(G.mks r s).length=r:=by simp[G.mks]
theorem mks_of_ne (r:Nat)(l:List Int)(h:l≠[]):G.mks r l=G.marks r l:=by
 unfold G.mks G.marks
 rw[show l.isEmpty=false by cases l <;> simp_all]
 simp
theorem axes_1 (r:Nat)(hr:r≤6)(x:List Bool)(hx:x.length=r):∀ i,i≤r→(x.take i=List.replicate i true) →
  Ev (fun k=>fcf.l1 k x (r:Int) (i:Int)) (List.replicate r true,0):=by
 intro i hi
 obtain⟨d,hd⟩:∃ d,r=i+d:=⟨r-i,by omega⟩
 induction d generalizing i x with
 | zero =>
  intro h
  have:i=x.length:=by omega
  subst this
  rw[List.take_length] at h
  refine Es (fun k=>?_) (En _)
  rw[fcf.l1,iN (by omega),h,hx]
 | succ d ih =>
  intro h
  refine Es (fun k=>?_) (ih (x.set i true) (by simp[hx]) (i+1) (by omega) (by omega) ?_)
  ·rw[fcf.l1,ip (by omega),ip (by omega),ip (by omega),Int.toNat_natCast,nx i r (by omega) (by omega)]
  ·rw[List.take_succ_eq_append_getElem (by simp;omega),List.take_set_of_le (by omega),h,List.getElem_set_self,List.replicate_succ']
theorem axes_0 (r:Nat)(hr:r≤6)(l:List Int)(hn:l.length≤1000000000):∀ i,i≤l.length →
  Ev (fun k=>fcf.l0 k (r:Int) l (G.marks r (l.take i)) l (l.length:Int) (i:Int)) (if G.axv r (l.take i) (l.drop i)=true then(G.mks r l,0)else([],10)):=by
 apply down
 ·rw[List.take_length,List.drop_length]
  rw[ip (by rfl)]
  by_cases e:l=[]
  ·subst e
   have:=axes_1 r hr (G.marks r []) (marks_length _ _) 0 (by omega) (by simp)
   rw[show G.mks r []=List.replicate r true by
    unfold G.mks
    apply List.ext_getElem (by simp)
    intro j _ _;simp]
   refine Es (fun k=>?_) this
   rw[fcf.l0,iN (by simp),ip (by simp),marks_length];rfl
  ·rw[mks_of_ne r l e]
   have h0:¬ ((l.length:Int)=0):=by
    intro h;apply e;apply List.eq_nil_of_length_eq_zero;omega
   refine Es (fun k=>?_) (En _)
   rw[fcf.l0,iN (by omega),iN h0]
 ·intro i hi ih
  rw[dropc l i hi,G.axv]
  by_cases h1:rd l (i:Int)<0
  ·rw[iN (by simp;omega)]
   refine Es (fun k=>?_) (En _)
   rw[fcf.l0,ip (by omega),ip (by omega),ip (by omega),ip h1]
  ·by_cases h2:(r:Int)≤rd l (i:Int)
   ·rw[iN (by simp;omega)]
    refine Es (fun k=>?_) (En _)
    rw[fcf.l0,ip (by omega),ip (by omega),ip (by omega),iN h1,ip h2]
   ·have ha:=marks_at r (l.take i) (rd l (i:Int)) (by omega) (by omega)
    by_cases h3:(l.take i).contains (rd l (i:Int))=true
    ·rw[h3,iN (by simp)]
     refine Es (fun k=>?_) (En _)
     rw[fcf.l0,ip (by omega),ip (by omega),ip (by omega),iN h1,iN h2,ip (by omega),ip (by rw[marks_length];omega),ha,ip h3]
    ·have e:l.take (i+1)=l.take i++[rd l (i:Int)]:=by rw[List.take_succ_eq_append_getElem hi,rdg l i hi]
     rw[e] at ih
     rw[show (decide (0≤rd l (i:Int)) && decide (rd l (i:Int)<(r:Int)) && !((l.take i).contains (rd l (i:Int))))=true by simp[h3];simp at h3;exact⟨by omega,h3⟩,Bool.true_and]
     refine Es (fun k=>?_) ih
     rw[fcf.l0,ip (by omega),ip (by omega),ip (by omega),iN h1,iN h2,ip (by omega),ip (by rw[marks_length];omega),ha,iN h3,marks_set r _ _ (by omega) (by omega),nx i _ hi hn]
theorem shape_axes (r:Int)(l:List Int)(hn:l.length≤1000000000):Ev (fun k=>fcf.f k r l) (G.axs r l):=by
 unfold G.axs
 by_cases h0:r<0
 ·rw[ip (.inl h0)]
  refine Ec (f:=fun k=>fcf.j0 k r l true) (fun k=>by rw[fcf.f,ip h0]) ?_
  refine Es (fun k=>?_) (En _)
  rw[fcf.j0,ip rfl]
 ·refine Ec (f:=fun k=>fcf.j0 k r l (decide (r > 6))) (fun k=>by rw[fcf.f,iN h0]) ?_
  by_cases h6:6<r
  ·rw[ip (.inr h6)]
   refine Es (fun k=>?_) (En _)
   rw[fcf.j0,ip (by simpa using h6)]
  ·rw[iN (by omega)]
   obtain⟨n,rfl⟩:=Int.eq_ofNat_of_zero_le (show 0≤r by omega)
   have:=axes_0 n (by omega) l hn 0 (by omega)
   rw[List.take_zero,List.drop_zero] at this
   refine Es (fun k=>?_) this
   rw[fcf.j0,iN (by simp;omega),ip (by omega),ip (by simp;omega),Int.toNat_natCast]
   rw[show G.marks n []=List.replicate n false by
    unfold G.marks
    apply List.ext_getElem (by simp)
    intro j _ _;simp]
   rfl
theorem ref_axes_1 (r:Nat)(hr:r≤6)(l:List Int)(hn:l.length≤1000000000):∀ i,i≤r →
  Ev (fun k=>faf.l1 k l ((G.mks r l).take i) (r:Int) (i:Int)) (G.mks r l,0):=by
 apply down
 ·rw[List.take_of_length_le (by rw[mks_length];omega)]
  refine Es (fun k=>?_) (En _)
  rw[faf.l1,iN (by omega)]
 ·intro i hi ih
  have e:(G.mks r l).take (i+1)=(G.mks r l).take i++[l.isEmpty || l.contains (i:Int)]:=by
   rw[List.take_succ_eq_append_getElem (by rw[mks_length];exact hi)]
   simp[G.mks]
  rw[e] at ih
  have hl:((G.mks r l).take i).length<140737488355328:=by rw[List.length_take,mks_length];omega
  by_cases h:l=[]
  ·subst h
   refine Es (fun k=>?_) ih
   rw[faf.l1,ip (by omega),ip (by simp),ip hl,nx i r hi (by omega)];rfl
  ·have h0:¬ ((l.length:Int)=0):=by
    intro h2;apply h;apply List.eq_nil_of_length_eq_zero;omega
   rw[show l.isEmpty=false by cases l <;> simp_all,Bool.false_or] at ih
   refine Es (f:=fun k=>(faj.f k l (i:Int)).bind fun t142=>faf.l1 k l ((G.mks r l).take i++[t142]) (r:Int) ((i+1:Nat):Int)) (fun k=>?_) (Eb (has l _ hn) ih)
   rw[faf.l1,ip (by omega),iN h0,nx i r hi (by omega)]
   simp only[ip hl]
theorem ref_axes_0 (r:Nat)(hr:r≤6)(l:List Int)(hn:l.length≤1000000000):∀ i,i≤l.length →
  Ev (fun k=>faf.l0 k (r:Int) l (l.length:Int) (i:Int)) (if G.axv r (l.take i) (l.drop i)=true then(G.mks r l,0)else([],10)):=by
 apply down
 ·rw[List.take_length,List.drop_length,ip (by rfl)]
  refine Es (fun k=>?_) (ref_axes_1 r hr l hn 0 (by omega))
  rw[faf.l0,iN (by omega)];rfl
 ·intro i hi ih
  rw[dropc l i hi,G.axv]
  by_cases h1:rd l (i:Int)<0
  ·rw[iN (by simp;omega)]
   refine Es (fun k=>?_) (En _)
   rw[faf.l0,ip (by omega),ip (by omega),ip (by omega),ip h1]
  ·by_cases h2:(r:Int)≤rd l (i:Int)
   ·rw[iN (by simp;omega)]
    refine Es (fun k=>?_) (En _)
    rw[faf.l0,ip (by omega),ip (by omega),ip (by omega),iN h1,ip h2]
   ·refine Es (f:=fun k=>(faj.f k (l.take i) (rd l (i:Int))).bind fun t138=>if t138=true then some ([],10)else faf.l0 k (r:Int) l (l.length:Int) ((i+1:Nat):Int)) (fun k=>?_) (Eb (has (l.take i) (rd l (i:Int)) (by rw[List.length_take];omega)) ?_)
    ·rw[faf.l0,ip (by omega),ip (by omega),ip (by omega),iN h1,iN h2,ip (by omega),Int.toNat_natCast,nx i _ hi hn]
    ·by_cases h3:(l.take i).contains (rd l (i:Int))=true
     ·rw[h3,iN (by simp)]
      refine Ec (fun k=>?_) (En _)
      rw[ip rfl]
     ·have e:l.take (i+1)=l.take i++[rd l (i:Int)]:=by rw[List.take_succ_eq_append_getElem hi,rdg l i hi]
      rw[e] at ih
      rw[show (decide (0≤rd l (i:Int)) && decide (rd l (i:Int)<(r:Int)) && !((l.take i).contains (rd l (i:Int))))=true by simp[h3];simp at h3;exact⟨by omega,h3⟩,Bool.true_and]
      refine Ec (fun k=>?_) ih
      rw[iN h3]
theorem ref_axes (r:Int)(l:List Int)(hn:l.length≤1000000000):Ev (fun k=>faf.f k r l) (G.axs r l):=by
 unfold G.axs
 by_cases h0:r<0
 ·rw[ip (.inl h0)]
  refine Ec (f:=fun k=>faf.j0 k r l true) (fun k=>by rw[faf.f,ip h0]) ?_
  refine Es (fun k=>?_) (En _)
  rw[faf.j0,ip rfl]
 ·refine Ec (f:=fun k=>faf.j0 k r l (decide (r > 6))) (fun k=>by rw[faf.f,iN h0]) ?_
  by_cases h6:6<r
  ·rw[ip (.inr h6)]
   refine Es (fun k=>?_) (En _)
   rw[faf.j0,ip (by simpa using h6)]
  ·rw[iN (by omega)]
   obtain⟨n,rfl⟩:=Int.eq_ofNat_of_zero_le (show 0≤r by omega)
   have:=ref_axes_0 n (by omega) l hn 0 (by omega)
   rw[List.take_zero,List.drop_zero] at this
   refine Es (fun k=>?_) this
   rw[faf.j0,iN (by simp;omega)];rfl
theorem axs_length (d l:List Int)(h:(G.axs d.length l).2=0):(G.axs d.length l).1.length=d.length:=by
 unfold G.axs at h ⊢
 split at h
 ·simp at h
 ·rename_i h1
  split at h
  ·rename_i h2
   rw[iN h1,ip h2]
   simp[mks_length]
  ·simp at h
theorem drop_l (keep:Bool)(m:List Bool)(d:List Int)(hm:m.length=d.length)(hn:d.length≤6):∀ i,i≤d.length→∀ o:List Int,o.length≤i →
  Ev (fun k=>fci.l0 k keep m o d (d.length:Int) (i:Int)) (o++G.drp keep (m.drop i) (d.drop i),0):=by
 apply down
 ·intro o ho
  rw[List.drop_length,← hm,List.drop_length]
  simp only[G.drp,List.append_nil]
  refine Es (fun k=>?_) (En _)
  rw[fci.l0,iN (by omega)]
 ·intro i hi ih o ho
  rw[dropc d i hi,List.drop_eq_getElem_cons (show i<m.length by omega)]
  simp only[G.drp]
  have hb:=rdb m i (by omega)
  by_cases h1:m[i]=true
  ·rw[ip h1]
   by_cases h2:keep=true
   ·rw[ip h2]
    have:=ih (o++[1]) (by simp;omega)
    rw[List.append_assoc,List.singleton_append] at this
    refine Es (fun k=>?_) this
    rw[fci.l0,ip (by omega),ip (by omega),ip (by omega),ip (by omega),hb,ip h1,ip h2,ip (by omega),nx i _ hi (by omega)]
   ·rw[iN h2]
    refine Es (fun k=>?_) (ih o (by omega))
    rw[fci.l0,ip (by omega),ip (by omega),ip (by omega),ip (by omega),hb,ip h1,iN h2,nx i _ hi (by omega)]
  ·rw[iN h1]
   have:=ih (o++[rd d (i:Int)]) (by simp;omega)
   rw[List.append_assoc,List.singleton_append] at this
   refine Es (fun k=>?_) this
   rw[fci.l0,ip (by omega),ip (by omega),ip (by omega),ip (by omega),hb,iN h1,ip (by omega),nx i _ hi (by omega)]
theorem ref_drop_l (keep:Bool)(m:List Bool)(d:List Int)(hm:m.length=d.length)(hn:d.length≤6):∀ i,i≤d.length→∀ o:List Int,o.length≤i →
  Ev (fun k=>fai.l0 k d keep m o (d.length:Int) (i:Int)) (o++G.drp keep (m.drop i) (d.drop i),0):=by
 apply down
 ·intro o ho
  rw[List.drop_length,← hm,List.drop_length]
  simp only[G.drp,List.append_nil]
  refine Es (fun k=>?_) (En _)
  rw[fai.l0,iN (by omega)]
 ·intro i hi ih o ho
  rw[dropc d i hi,List.drop_eq_getElem_cons (show i<m.length by omega)]
  simp only[G.drp]
  have hb:=rdb m i (by omega)
  by_cases h1:m[i]=true
  ·rw[ip h1]
   by_cases h2:keep=true
   ·rw[ip h2]
    have:=ih (o++[1]) (by simp;omega)
    rw[List.append_assoc,List.singleton_append] at this
    refine Es (fun k=>?_) this
    rw[fai.l0,ip (by omega),ip (by omega),ip (by omega),hb,ip h1,ip h2,ip (by omega),nx i _ hi (by omega)]
   ·rw[iN h2]
    refine Es (fun k=>?_) (ih o (by omega))
    rw[fai.l0,ip (by omega),ip (by omega),ip (by omega),hb,ip h1,iN h2,nx i _ hi (by omega)]
  ·rw[iN h1]
   have:=ih (o++[rd d (i:Int)]) (by simp;omega)
   rw[List.append_assoc,List.singleton_append] at this
   refine Es (fun k=>?_) this
   rw[fai.l0,ip (by omega),ip (by omega),ip (by omega),hb,iN h1,ip (by omega),ip (by omega),nx i _ hi (by omega)]
theorem shape_drop (d l:List Int)(keep:Bool)(hn:l.length≤1000000000):Ev (fun k=>fci.f k d l keep) (G.drop d l keep):=by
 unfold G.drop
 by_cases h:G.chk d=0
 ·rw[ip h]
  refine Ec (f:=fun k=>(fcf.f k (d.length:Int) l).bind fun bt149=>if bt149.2=0 then fci.l0 k keep bt149.1 ([]:List Int) d (d.length:Int) 0 else some (([]:List Int),bt149.2)) (fun k=>by rw[fci.f,shape_check,Option.bind_some,ip h]) ?_
  refine Eb (shape_axes d.length l hn) ?_
  by_cases h2:(G.axs d.length l).2=0
  ·simp only[ip h2]
   have:=drop_l keep (G.axs d.length l).1 d (axs_length d l h2) (G.chk_ok h).1 0 (by omega) [] (by simp)
   rw[List.drop_zero,List.drop_zero,List.nil_append] at this
   exact this
  ·simp only[iN h2]
   exact En _
 ·rw[iN h]
  refine Ec (fun k=>?_) (En _)
  rw[fci.f,shape_check,Option.bind_some,iN h]
theorem ref_drop (d l:List Int)(keep:Bool)(hn:l.length≤1000000000):Ev (fun k=>fai.f k d l keep) (G.drop d l keep):=by
 unfold G.drop
 refine Ec (fun k=>by rw[fai.f]) (Eb (ref_check d) ?_)
 by_cases h:G.chk d=0
 ·simp only[ip h]
  refine Eb (ref_axes d.length l hn) ?_
  by_cases h2:(G.axs d.length l).2=0
  ·simp only[ip h2]
   have:=ref_drop_l keep (G.axs d.length l).1 d (axs_length d l h2) (G.chk_ok h).1 0 (by omega) [] (by simp)
   rw[List.drop_zero,List.drop_zero,List.nil_append] at this
   exact this
  ·simp only[iN h2]
   exact En _
 ·simp only[iN h]
  exact En _
theorem axv_all (r:Int)(s l:List Int)(h:G.axv r s l=true):∀ a∈l,0≤a∧a<r:=by
 induction l generalizing s with
 | nil=>simp
 | cons x l ih =>
  simp only[G.axv,Bool.and_eq_true,decide_eq_true_eq] at h
  intro a ha
  rcases List.mem_cons.1 ha with rfl|ha
  ·exact⟨h.1.1.1,h.1.1.2⟩
  ·exact ih _ h.2 a ha
theorem axs_all (d l:List Int)(h:(G.axs d.length l).2=0):∀ a∈l,0≤a∧a<(d.length:Int):=by
 unfold G.axs at h
 split at h
 ·simp at h
 ·split at h
  ·rename_i h2;exact axv_all _ _ _ h2
  ·simp at h
theorem axs_err (d l:List Int)(hd:d.length≤6)(h:¬ (G.axs d.length l).2=0):G.axs d.length l=([],10):=by
 unfold G.axs at h ⊢
 rw[iN (by omega)] at h ⊢
 split
 ·rename_i h2;rw[ip h2] at h;simp at h
 ·rfl
theorem at0_rd (d:List Int)(a:Int):G.at0 d a=rd d a:=rfl
theorem perm_l (d l:List Int)(hall:∀ a∈l,0≤a∧a<(d.length:Int))(hn:l.length≤6):∀ i,i≤l.length→∀ o:List Int,o.length≤i →
  Ev (fun k=>fcj.l0 k d o l (l.length:Int) (i:Int)) (o++G.prm d (l.drop i),0):=by
 apply down
 ·intro o ho
  rw[List.drop_length]
  simp only[G.prm,List.map_nil,List.append_nil]
  refine Es (fun k=>?_) (En _)
  rw[fcj.l0,iN (by omega)]
 ·intro i hi ih o ho
  have ha:=hall (rd l (i:Int)) (by rw[rdg l i hi];exact List.getElem_mem hi)
  rw[dropc l i hi]
  have:=ih (o++[rd d (rd l (i:Int))]) (by simp;omega)
  rw[List.append_assoc,List.singleton_append] at this
  refine Es (fun k=>?_) this
  rw[fcj.l0,ip (by omega),ip (by omega),ip (by omega),ip (by omega),ip (by omega),ip (by omega),nx i _ hi (by omega)]
theorem ref_perm_l (d l:List Int)(hall:∀ a∈l,0≤a∧a<(d.length:Int))(hn:l.length≤6):∀ i,i≤l.length→∀ o:List Int,o.length≤i →
  Ev (fun k=>fak.l0 k d l o (l.length:Int) (i:Int)) (o++G.prm d (l.drop i),0):=by
 apply down
 ·intro o ho
  rw[List.drop_length]
  simp only[G.prm,List.map_nil,List.append_nil]
  refine Es (fun k=>?_) (En _)
  rw[fak.l0,iN (by omega)]
 ·intro i hi ih o ho
  have ha:=hall (rd l (i:Int)) (by rw[rdg l i hi];exact List.getElem_mem hi)
  rw[dropc l i hi]
  have:=ih (o++[rd d (rd l (i:Int))]) (by simp;omega)
  rw[List.append_assoc,List.singleton_append] at this
  refine Es (fun k=>?_) this
  rw[fak.l0,ip (by omega),ip (by omega),ip (by omega),ip (by omega),ip (by omega),ip (by omega),nx i _ hi (by omega)]
theorem shape_perm (d l:List Int)(hn:l.length≤1000000000):Ev (fun k=>fcj.f k d l) (G.perm d l):=by
 unfold G.perm
 by_cases h:G.chk d=0
 ·rw[ip h]
  have h6:=(G.chk_ok h).1
  by_cases hl:l.length=d.length
  ·refine Ec (f:=fun k=>(fcf.f k (d.length:Int) l).bind fun bt179=>if bt179.2=0 then fcj.l0 k d ([]:List Int) l (l.length:Int) 0 else some (([]:List Int),bt179.2)) (fun k=>by rw[fcj.f,shape_check,Option.bind_some,ip h,ip (by omega)]) ?_
   refine Eb (shape_axes d.length l hn) ?_
   by_cases h2:(G.axs d.length l).2=0
   ·simp only[ip h2]
    rw[ip ⟨hl,h2⟩]
    have:=perm_l d l (axs_all d l h2) (by omega) 0 (by omega) [] (by simp)
    rw[List.drop_zero,List.nil_append] at this
    exact this
   ·simp only[iN h2]
    rw[iN (fun hh=>h2 hh.2),axs_err d l h6 h2]
    exact En _
  ·rw[iN (fun hh=>hl hh.1)]
   refine Ec (fun k=>?_) (En _)
   rw[fcj.f,shape_check,Option.bind_some,ip h,iN (by omega)]
 ·rw[iN h]
  refine Ec (fun k=>?_) (En _)
  rw[fcj.f,shape_check,Option.bind_some,iN h]
theorem ref_perm (d l:List Int)(hn:l.length≤1000000000):Ev (fun k=>fak.f k d l) (G.perm d l):=by
 unfold G.perm
 refine Ec (fun k=>by rw[fak.f]) (Eb (ref_check d) ?_)
 by_cases h:G.chk d=0
 ·simp only[ip h]
  have h6:=(G.chk_ok h).1
  refine Eb (ref_axes d.length l hn) ?_
  by_cases h2:(G.axs d.length l).2=0
  ·simp only[ip h2]
   by_cases hl:l.length=d.length
   ·rw[ip ⟨hl,h2⟩]
    have:=ref_perm_l d l (axs_all d l h2) (by omega) 0 (by omega) [] (by simp)
    rw[List.drop_zero,List.nil_append] at this
    refine Es (fun k=>?_) this
    rw[fak.j0,iN (by simp;omega)];rfl
   ·rw[iN (fun hh=>hl hh.1)]
    refine Es (fun k=>?_) (En _)
    rw[fak.j0,ip (by simp;omega)]
  ·simp only[iN h2]
   rw[iN (fun hh=>h2 hh.2)]
   refine Es (fun k=>?_) (En _)
   rw[fak.j0,ip rfl]
 ·simp only[iN h]
  exact En _
theorem set_map (d:List Int)(a:Nat) (s:Int)(i:Nat)(hi:i<d.length):(d.set a s)[i]'(by simpa using hi)=if i=a then s else rd d (i:Int):=by
 rw[List.getElem_set,rdg d i hi]
 by_cases e:a=i
 ·rw[ip e,ip e.symm]
 ·rw[iN e,iN (fun h=>e h.symm)]
theorem ref_with_l (d:List Int)(a:Nat) (s:Int)(hn:d.length≤6)(ha:a<d.length):∀ i,i≤d.length →
  Ev (fun k=>fam.l0 k d (a:Int) s ((d.set a s).take i) (d.length:Int) (i:Int)) (if G.chk (d.set a s)=0 then(d.set a s,0)else([],G.chk (d.set a s))):=by
 apply down
 ·rw[List.take_of_length_le (by simp)]
  refine Es (fun k=>by rw[fam.l0,iN (by omega)]) (Eb (ref_check _) ?_)
  by_cases h:G.chk (d.set a s)=0
  ·simp only[ip h];exact En _
  ·simp only[iN h];exact En _
 ·intro i hi ih
  have e:(d.set a s).take (i+1)=(d.set a s).take i++[if i=a then s else rd d (i:Int)]:=by
   rw[List.take_succ_eq_append_getElem (by simpa using hi),set_map d a s i hi]
  rw[e] at ih
  have hl:((d.set a s).take i).length<17592186044416:=by rw[List.length_take,List.length_set];omega
  by_cases h:i=a
  ·rw[ip h] at ih
   refine Es (fun k=>?_) ih
   rw[fam.l0,ip (by omega),ip (by omega),ip hl,nx i _ hi (by omega)]
  ·rw[iN h] at ih
   refine Es (fun k=>?_) ih
   rw[fam.l0,ip (by omega),iN (by omega),ip (by omega),ip (by omega),ip hl,nx i _ hi (by omega)]
theorem ref_with (d:List Int)(a s:Int):Ev (fun k=>fam.f k d a s) (G.withd d a s):=by
 unfold G.withd
 refine Ec (fun k=>by rw[fam.f]) (Eb (ref_check d) ?_)
 by_cases h:G.chk d=0
 ·have h6:=(G.chk_ok h).1
  simp only[ip h]
  by_cases h0:a<0
  ·rw[ip (.inl h0)]
   simp only[ip h0]
   refine Es (fun k=>?_) (En _)
   rw[fam.j0,ip rfl]
  ·simp only[iN h0]
   by_cases h1:(d.length:Int)≤a
   ·rw[ip (.inr h1)]
    refine Es (fun k=>?_) (En _)
    rw[fam.j0,ip (decide_eq_true h1)]
   ·rw[iN (by omega)]
    obtain⟨n,rfl⟩:=Int.eq_ofNat_of_zero_le (show 0≤a by omega)
    rw[Int.toNat_natCast]
    refine Es (fun k=>?_) (ref_with_l d n s h6 (by omega) 0 (by omega))
    rw[fam.j0,iN (by simp;omega)];rfl
 ·simp only[iN h];exact En _
theorem withp (d:List Int)(a s:Int):Ev (fun k=>fcm.f k d a s) (G.withd d a s):=by
 unfold G.withd
 by_cases h:G.chk d=0
 ·have h6:=(G.chk_ok h).1
  rw[ip h]
  by_cases h0:a<0
  ·rw[ip (.inl h0)]
   refine Ec (fun k=>by rw[fcm.f,shape_check,Option.bind_some,ip h,ip h0]) ?_
   refine Es (fun k=>?_) (En _)
   rw[fcm.j0,ip rfl]
  ·refine Ec (fun k=>by rw[fcm.f,shape_check,Option.bind_some,ip h,iN h0]) ?_
   by_cases h1:(d.length:Int)≤a
   ·rw[ip (.inr h1)]
    refine Es (fun k=>?_) (En _)
    rw[fcm.j0,ip (decide_eq_true h1)]
   ·rw[iN (by omega)]
    refine Es (fun k=>?_) (En _)
    rw[fcm.j0,iN (by simp;omega),fcn.f,ip (by omega),Option.bind_some,ip (by omega),ip (by omega),Option.bind_some,shape_check,Option.bind_some]
    split <;> rfl
 ·rw[iN h]
  refine Ec (fun k=>?_) (En _)
  rw[fcm.f,shape_check,Option.bind_some,iN h]
theorem ref_count_l (d:List Int)(hok:G.chk d=0):∀ i,i≤d.length→Ev (fun k=>fah.l0 k d (G.prod (d.take i)) (d.length:Int) (i:Int)) (G.prod d):=by
 obtain⟨h6,h1,h2⟩:=G.chk_ok hok
 apply down
 ·rw[List.take_length]
  refine Es (fun k=>?_) (En _)
  rw[fah.l0,iN (by omega)]
 ·intro i hi ih
  have hs:=G.prod_take_succ d i hi
  have hle:=G.prod_take_le d h1 (i+1)
  have hp:=G.prod_pos (d.take (i+1)) (fun x hx=>h1 x (List.mem_of_mem_take hx))
  rw[hs] at ih hle hp
  refine Es (fun k=>?_) ih
  rw[fah.l0,ip (by omega),ip (by omega),ip (by omega),rdg d i hi,w64 (by omega) (by omega),nx i _ hi (by omega)]
theorem ref_count (d:List Int):Ev (fun k=>fah.f k d) (G.cnt d):=by
 refine Ec (fun k=>by rw[fah.f]) (Eb (ref_check d) ?_)
 unfold G.cnt
 by_cases h:G.chk d=0
 ·simp only[ip h]
  have:=ref_count_l d h 0 (by omega)
  exact this
 ·simp only[iN h];exact En _
theorem rdl (l:List (List Int))(i:Nat)(h:i<l.length):rd_L1 l (i:Int)=l[i]:=by
 simp[rd_L1,List.getD_eq_getElem?_getD,List.getElem?_eq_getElem h]
theorem all_2 (d:List Int)(L:List (List Int))(i:Nat)(hi:i<d.length)(q:Nat)(hq:q<L.length)(hn:d.length≤6)(hL:L.length≤64)(hL6:∀ p∈L,p.length≤6)(X:Nat)(hX:X≤64)(hXd:rd d (i:Int)=(X:Int))(r:List (List Int)) :
  ∀ v,v≤X→∀ acc:List (List Int),acc.length≤64*q+v →
  Ev (fun k=>fan.l1 k d L (i:Int) (acc++((List.range (X-v)).map fun u:Nat=>L[q]++[((v+u:Nat):Int)])) (d.length:Int) (i:Int) (L.length:Int) ((q+1:Nat):Int)) r →
  Ev (fun k=>fan.l2 k d L (i:Int) acc (q:Int) (d.length:Int) (i:Int) (L.length:Int) (q:Int) (rd d (i:Int)) (v:Int)) r:=by
 apply down
 ·intro acc hacc h
  simp at h
  refine Es (fun k=>?_) h
  rw[fan.l2,iN (by omega),nx q _ hq (by omega)];rfl
 ·intro v hv ih acc hacc h
  have h6:=hL6 L[q] (List.getElem_mem hq)
  have e:acc++((List.range (X-v)).map fun u:Nat=>L[q]++[((v+u:Nat):Int)])=(acc++[L[q]++[(v:Int)]])++((List.range (X-(v+1))).map fun u:Nat=>L[q]++[((v+1+u:Nat):Int)]):=by
   rw[show X-v=(X-(v+1))+1 by omega,List.range_succ_eq_map,List.map_cons,List.map_map,List.append_assoc,List.singleton_append]
   congr 2
   apply List.map_congr_left
   intro u _
   simp only[Function.comp]
   rw[show v+u.succ=v+1+u by omega]
  rw[e] at h
  refine Es (fun k=>?_) (ih (acc++[L[q]++[(v:Int)]]) (by simp;omega) h)
  rw[fan.l2,ip (by omega),Option.bind_some,ip (by omega),ip (by omega),rdl L q hq,ip (by simp;omega),Option.bind_some,ip (by simp;omega),ip (by omega),nx v X hv (by omega),List.nil_append]
theorem all_1 (d:List Int)(L:List (List Int))(i:Nat)(hi:i<d.length)(hn:d.length≤6)(hL:L.length≤64)(hL6:∀ p∈L,p.length≤6)(X:Nat)(hX:X≤64)(hXd:rd d (i:Int)=(X:Int))(r:List (List Int)) :
  ∀ q,q≤L.length→∀ acc:List (List Int),acc.length≤64*q →
  Ev (fun k=>fan.l0 k d (acc++(L.drop q).flatMap fun p=>(List.range X).map fun v:Nat=>p++[(v:Int)]) (d.length:Int) ((i+1:Nat):Int)) r →
  Ev (fun k=>fan.l1 k d L (i:Int) acc (d.length:Int) (i:Int) (L.length:Int) (q:Int)) r:=by
 apply down
 ·intro acc hacc h
  rw[List.drop_length] at h
  simp only[List.flatMap_nil,List.append_nil] at h
  refine Es (fun k=>?_) h
  rw[fan.l1,iN (by omega),nx i _ hi (by omega)]
 ·intro q hq ih acc hacc h
  rw[List.drop_eq_getElem_cons hq,List.flatMap_cons,← List.append_assoc] at h
  have:=ih _ (by simp;omega) h
  refine Es (fun k=>?_) (all_2 d L i hi q hq hn hL hL6 X hX hXd r 0 (by omega) acc (by omega) (by simpa using this))
  rw[fan.l1,ip (by omega),ip (by omega),ip (by omega)];rfl
theorem all_0 (d:List Int)(hok:G.chk d=0):∀ i,i≤d.length →
  Ev (fun k=>fan.l0 k d (G.pre (d.take i)) (d.length:Int) (i:Int)) (G.pre d):=by
 obtain⟨h6,h1,h2⟩:=G.chk_ok hok
 apply down
 ·rw[List.take_length]
  refine Es (fun k=>?_) (En _)
  rw[fan.l0,iN (by omega)]
 ·intro i hi ih
  have hx:=h1 _ (List.getElem_mem hi)
  have hx2:=G.ok_le hok _ (List.getElem_mem hi)
  have e:d.take (i+1)=d.take i++[rd d (i:Int)]:=by rw[List.take_succ_eq_append_getElem hi,rdg d i hi]
  rw[e,G.pre_snoc _ _ (fun y hy=>h1 y (List.mem_of_mem_take hy)) (by rw[rdg d i hi];exact hx)] at ih
  have hp:=G.chk_ok (G.ok_take hok i)
  refine Es (fun k=>?_) (all_1 d (G.pre (d.take i)) i hi h6 (by rw[G.pre_length];omega) ?_ (rd d (i:Int)).toNat (by rw[rdg d i hi];omega) (by rw[rdg d i hi];omega) _ 0 (by omega) [] (by simp) (by simpa using ih))
  ·rw[fan.l0,ip (by omega)];rfl
  ·intro p hp
   simp only[G.pre,List.mem_map] at hp
   obtain⟨n,_,rfl⟩:=hp
   rw[G.dig_length,List.length_take];omega
theorem ref_all (d:List Int):Ev (fun k=>fan.f k d) (G.alls d):=by
 refine Ec (fun k=>by rw[fan.f]) (Eb (ref_check d) ?_)
 by_cases h:G.chk d=0
 ·simp only[ip h]
  rw[G.alls_ok h]
  have:=all_0 d h 0 (by omega)
  rw[List.take_zero,G.pre_nil] at this
  exact this
 ·simp only[iN h]
  unfold G.alls
  rw[iN h]
  exact En _
theorem move_put_l (x:List Int)(n a a2 a3 a4 a5 a6 a7:Int)(a8:Bool)(l:List Int)(hn:l.length≤1000000000):∀ i,i≤l.length →
  Ev (fun k=>fbx.l0 k x l (l.length:Int) (i:Int) n a a2 a3 a4 a5 a6 a7 a8 l) (if G.inr (l.drop i) a=true then(x,0)else([],11)):=by
 apply down
 ·rw[List.drop_length]
  refine Es (fun k=>?_) (En _)
  rw[fbx.l0,iN (by omega)];rfl
 ·intro i hi ih
  have e:=G.inr_cons (rd l (i:Int)) (l.drop (i+1)) a
  rw[dropc l i hi]
  by_cases h0:rd l (i:Int)<0
  ·rw[iN (fun c=>absurd (e.1 c).1.1 (by omega))]
   refine Es (fun k=>?_) (En _)
   rw[fbx.l0,ip (by omega),ip (by omega),ip (by omega),ip h0]
  ·by_cases h1:a≤rd l (i:Int)
   ·rw[iN (fun c=>absurd (e.1 c).1.2 (by omega))]
    refine Es (fun k=>?_) (En _)
    rw[fbx.l0,ip (by omega),ip (by omega),ip (by omega),iN h0,ip h1]
   ·rw[show G.inr (rd l (i:Int)::l.drop (i+1)) a=G.inr (l.drop (i+1)) a by rw[Bool.eq_iff_iff,e];exact⟨fun h=>h.2,fun h=>⟨⟨by omega,by omega⟩,h⟩⟩]
    refine Es (fun k=>?_) ih
    rw[fbx.l0,ip (by omega),ip (by omega),ip (by omega),iN h0,iN h1,nx i _ hi hn]
theorem mput (d:List Int)(n a a2 a3 a4 a5 a6 a7:Int)(a8:Bool)(l:List Int)(hn:l.length≤1000000000):Ev (fun k=>fbx.f k d n a a2 a3 a4 a5 a6 a7 a8 l) (G.putd d n a l):=by
 refine Ec (fun k=>by rw[fbx.f]) (Eb (withp d n a) ?_)
 unfold G.putd
 by_cases h:(G.withd d n a).2=0
 ·obtain⟨w1,w2,w3,w4,w5⟩:=G.withd_o29 h
  rw[ip h]
  simp only[ip h,ip w2,ip w3]
  by_cases h2:(l.length:Int)=G.at0 d n
  ·rw[ip h2]
   refine Ec (fun k=>by rw[← at0_rd,ip h2]) ?_
   have:=move_put_l (G.withd d n a).1 n a a2 a3 a4 a5 a6 a7 a8 l hn 0 (by omega)
   rwa [List.drop_zero] at this
  ·rw[iN h2]
   exact Ec (fun k=>by rw[← at0_rd,iN h2]) (En _)
 ·rw[iN h]
  exact Ec (fun k=>by rw[iN h]) (En _)
theorem move_taken_l (d:List Int)(n a a2 a3 a4 a5 a6 a7:Int)(a8:Bool)(l:List Int)(hn:l.length≤1000000000)(h0:0≤n)(h1:n<(d.length:Int)):∀ i,i≤l.length →
  Ev (fun k=>fby.l0 k d l (l.length:Int) (i:Int) n a a2 a3 a4 a5 a6 a7 a8 l) (if G.inr (l.drop i) (G.at0 d n)=true then G.withd d n (l.length:Int)else([],11)):=by
 apply down
 ·rw[List.drop_length]
  refine Es (fun k=>by rw[fby.l0,iN (by omega)]) (Eb (withp d n (l.length:Int)) ?_)
  exact En _
 ·intro i hi ih
  have e:=G.inr_cons (rd l (i:Int)) (l.drop (i+1)) (G.at0 d n)
  rw[dropc l i hi]
  by_cases g0:rd l (i:Int)<0
  ·rw[iN (fun c=>absurd (e.1 c).1.1 (by omega))]
   refine Es (fun k=>?_) (En _)
   rw[fby.l0,ip (by omega),ip (by omega),ip (by omega),ip g0]
  ·by_cases g1:G.at0 d n≤rd l (i:Int)
   ·rw[iN (fun c=>absurd (e.1 c).1.2 (by omega))]
    refine Es (fun k=>?_) (En _)
    rw[fby.l0,ip (by omega),ip (by omega),ip (by omega),iN g0,ip h0,ip h1,← at0_rd d,ip g1]
   ·rw[show G.inr (rd l (i:Int)::l.drop (i+1)) (G.at0 d n)=G.inr (l.drop (i+1)) (G.at0 d n) by rw[Bool.eq_iff_iff,e];exact⟨fun h=>h.2,fun h=>⟨⟨by omega,by omega⟩,h⟩⟩]
    refine Es (fun k=>?_) ih
    rw[fby.l0,ip (by omega),ip (by omega),ip (by omega),iN g0,ip h0,ip h1,← at0_rd d,iN g1,nx i _ hi hn]
theorem mtaken (d:List Int)(n a a2 a3 a4 a5 a6 a7:Int)(a8:Bool)(l:List Int)(hn:l.length≤1000000000):Ev (fun k=>fby.f k d n a a2 a3 a4 a5 a6 a7 a8 l) (G.takd d n l):=by
 unfold G.takd
 by_cases h0:n<0
 ·rw[ip (.inl h0)]
  refine Ec (fun k=>by rw[fby.f,ip h0]) (Es (fun k=>?_) (En _))
  rw[fby.j0,ip rfl]
 ·refine Ec (fun k=>by rw[fby.f,iN h0]) ?_
  by_cases h1:(d.length:Int)≤n
  ·rw[ip (.inr h1)]
   refine Es (fun k=>?_) (En _)
   rw[fby.j0,ip (decide_eq_true h1)]
  ·rw[iN (by omega)]
   refine Es (fun k=>by rw[fby.j0,iN (by simp;omega)]) ?_
   have:=move_taken_l d n a a2 a3 a4 a5 a6 a7 a8 l hn (by omega) (by omega) 0 (by omega)
   rwa [List.drop_zero] at this
theorem mx_gr (a b:Int):mx a b=G.mx a b:=rfl
theorem size_at (l:List Int)(n:Nat)(hl:l.length≤n)(hn:n≤6)(i:Nat)(hi:i<n):fcs.f l (((n-i:Nat)):Int)=some ((G.pad n l)[i]'(by rw[G.pad_length n l hl];exact hi)):=by
 rw[fcs.f,G.pad_at n l hl i hi]
 by_cases h:n-l.length≤i
 ·rw[dif_pos h,iN (by omega),w64 (by omega) (by omega),ip (by omega),ip (by omega),show ((l.length:Int)-((n-i:Nat):Int))=((i-(n-l.length):Nat):Int) by omega,rdg l _ (by omega)]
 ·rw[dif_neg h,ip (by omega)]
theorem mxs_drop (p q:List Int)(i:Nat)(hp:i<p.length)(hq:i<q.length):(G.mxs p q).drop i=G.mx p[i] q[i]::(G.mxs p q).drop (i+1):=by
 induction i generalizing p q with
 | zero =>
  cases p with
  | nil=>simp at hp
  | cons x p =>
   cases q with
   | nil=>simp at hq
   | cons y q=>rfl
 | succ i ih =>
  cases p with
  | nil=>simp at hp
  | cons x p =>
   cases q with
   | nil=>simp at hq
   | cons y q =>
    have:=ih p q (by simpa using hp) (by simpa using hq)
    simpa [G.mxs] using this
theorem fitz_at (p q:List Int)(i:Nat)(hp:i<p.length)(hq:i<q.length)(h:G.fitz p q=true):p[i]=q[i]∨p[i]=1∨q[i]=1:=by
 have:=G.fitz_drop p q i h
 rw[List.drop_eq_getElem_cons hp,List.drop_eq_getElem_cons hq] at this
 simp only[G.fitz,Bool.and_eq_true,Bool.or_eq_true,beq_iff_eq] at this
 rcases this.1 with(h|h)|h
 ·exact .inl h
 ·exact .inr (.inl h)
 ·exact .inr (.inr h)
theorem fitz_drop_of (p q:List Int)(i:Nat)(hp:i<p.length)(hq:i<q.length)(h1:p[i]=q[i]∨p[i]=1∨q[i]=1)(h:G.fitz (p.drop (i+1)) (q.drop (i+1))=true):G.fitz (p.drop i) (q.drop i)=true:=by
 rw[List.drop_eq_getElem_cons hp,List.drop_eq_getElem_cons hq]
 simp only[G.fitz,Bool.and_eq_true,Bool.or_eq_true,beq_iff_eq]
 refine⟨?_,h⟩
 rcases h1 with h|h|h
 ·exact .inl (.inl h)
 ·exact .inl (.inr h)
 ·exact .inr h
theorem two_l1 (a b:List Int)(n:Nat)(ha:a.length≤n)(hb:b.length≤n)(hn:n≤6):∀ i,i≤n→∀ x:List Int,x.length=n→x.drop i=(G.mxs (G.pad n a) (G.pad n b)).drop i →
  G.fitz ((G.pad n a).drop i) ((G.pad n b).drop i)=true →
  Ev (fun k=>fcr.l1 k a b (n:Int) x (((n-i:Nat):Int)+1)) (G.tw (G.pad n a) (G.pad n b)):=by
 have la:=G.pad_length n a ha
 have lb:=G.pad_length n b hb
 intro i
 induction i with
 | zero =>
  intro hi x hl hx hf
  simp only[List.drop_zero] at hx hf
  subst hx
  unfold G.tw
  rw[ip hf]
  by_cases hc:G.chk (G.mxs (G.pad n a) (G.pad n b))=0
  ·rw[ip hc]
   refine Es (fun k=>?_) (En _)
   rw[fcr.l1,iN (by omega),shape_check,Option.bind_some,ip hc]
  ·rw[iN hc]
   refine Es (fun k=>?_) (En _)
   rw[fcr.l1,iN (by omega),shape_check,Option.bind_some,iN hc]
 | succ i ih =>
  intro hi x hl hx hf
  have hlt:i<n:=by omega
  have sa:=size_at a n ha hn i hlt
  have sb:=size_at b n hb hn i hlt
  have ei:(((n-(i+1):Nat):Int)+1)=((n-i:Nat):Int):=by omega
  have ei2:(n:Int)-((n-i:Nat):Int)=(i:Int):=by omega
  rw[ei]
  by_cases hfit:(G.pad n a)[i]=(G.pad n b)[i]∨(G.pad n a)[i]=1∨(G.pad n b)[i]=1
  ·have hnew:=ih (by omega) (x.set i (G.mx (G.pad n a)[i] (G.pad n b)[i])) (by simp[hl]) (by
    rw[List.drop_eq_getElem_cons (by simp;omega),mxs_drop _ _ i (by omega) (by omega)]
    simp only[List.getElem_set_self,List.cons.injEq,true_and]
    rw[List.drop_set_of_lt (by omega)]
    exact hx) (fitz_drop_of _ _ i (by omega) (by omega) hfit hf)
   refine Es (fun k=>?_) hnew
   rw[fcr.l1,ip (by omega),sa,Option.bind_some,sb,Option.bind_some,ei2,w64 (x:=(i:Int)) (by omega) (by omega),w64 (by omega) (by omega)]
   simp only[ip (show (0:Int)≤(i:Int) by omega),ip (show (i:Int)<(x.length:Int) by omega),Int.toNat_natCast,mx_gr]
   by_cases e1:(G.pad n a)[i]=(G.pad n b)[i]
   ·rw[ip e1]
   ·rw[iN e1]
    by_cases e2:(G.pad n a)[i]=1
    ·rw[ip e2]
    ·rw[iN e2,ip (by rcases hfit with h|h|h <;> first|exact absurd h e1|exact absurd h e2|exact h)]
  ·unfold G.tw
   rw[iN (fun h=>hfit (fitz_at _ _ i (by omega) (by omega) h))]
   refine Es (fun k=>?_) (En _)
   rw[fcr.l1,ip (by omega),sa,Option.bind_some,sb,Option.bind_some,iN (fun h=>hfit (.inl h)),iN (fun h=>hfit (.inr (.inl h))),iN (fun h=>hfit (.inr (.inr h)))]
theorem two (a b:List Int):Ev (fun k=>fcr.f k a b) (G.two a b):=by
 unfold G.two
 refine Ec (f:=fun k=>fcr.l0 k a b [a,b] 2 0) (fun k=>by rw[fcr.f,Option.bind_some];rfl) ?_
 have r0:rd_L1 [a,b] 0=a:=rfl
 have r1:rd_L1 [a,b] 1=b:=rfl
 by_cases ha:G.chk a=0
 ·rw[ip ha]
  have h6:=(G.chk_ok ha).1
  refine Es (f:=fun k=>fcr.l0 k a b [a,b] 2 1) (fun k=>by rw[fcr.l0,ip (by omega),ip (by omega),ip (by simp),r0,shape_check,Option.bind_some,ip ha,w64 (by omega) (by omega)];rfl) ?_
  by_cases hb:G.chk b=0
  ·rw[ip hb]
   have k6:=(G.chk_ok hb).1
   refine Es (f:=fun k=>fcr.l0 k a b [a,b] 2 2) (fun k=>by rw[fcr.l0,ip (by omega),ip (by omega),ip (by simp),r1,shape_check,Option.bind_some,ip hb,w64 (by omega) (by omega)];rfl) ?_
   have hm:mx (a.length:Int) (b.length:Int)=(G.rank2 a b:Int):=by unfold mx G.rank2;split <;> omega
   have:=two_l1 a b (G.rank2 a b) (by unfold G.rank2;omega) (by unfold G.rank2;omega) (by unfold G.rank2;omega) (G.rank2 a b) (by omega) (List.replicate (G.rank2 a b) 0) (by simp) (by
    rw[List.drop_of_length_le (by simp),List.drop_of_length_le]
    rw[G.mxs_length,G.pad_length _ _ (by unfold G.rank2;omega)];omega
    rw[G.pad_length _ _ (by unfold G.rank2;omega),G.pad_length _ _ (by unfold G.rank2;omega)]) (by
    rw[List.drop_of_length_le (by rw[G.pad_length _ _ (by unfold G.rank2;omega)];omega)];rfl)
   rw[show (((G.rank2 a b-G.rank2 a b:Nat):Int)+1)=1 by omega] at this
   refine Es (fun k=>?_) this
   rw[fcr.l0,iN (by omega),hm,ip (by omega),ip (by unfold G.rank2;omega),Int.toNat_natCast]
  ·rw[iN hb]
   refine Es (fun k=>?_) (En _)
   rw[fcr.l0,ip (by omega),ip (by omega),ip (by simp),r1,shape_check,Option.bind_some,iN hb]
 ·rw[iN ha]
  refine Es (fun k=>?_) (En _)
  rw[fcr.l0,ip (by omega),ip (by omega),ip (by simp),r0,shape_check,Option.bind_some,iN ha]
theorem ref_two_2 (p q:List Int)(hl:p.length=q.length)(hn:p.length≤6):∀ i,i≤p.length→G.fitz (p.take i) (q.take i)=true →
  Ev (fun k=>fat.l2 k p q ((G.mxs p q).take i) (p.length:Int) (i:Int)) (G.tw p q):=by
 have lm:=G.mxs_length p q hl
 apply down
 ·intro hf
  rw[List.take_length,hl,List.take_length] at hf
  rw[List.take_of_length_le (by omega)]
  refine Es (fun k=>by rw[fat.l2,iN (by omega)]) (Eb (ref_check _) ?_)
  unfold G.tw
  rw[ip hf]
  by_cases hc:G.chk (G.mxs p q)=0
  ·rw[ip hc,ip hc];exact En _
  ·rw[iN hc,iN hc];exact En _
 ·intro i hi ih hf
  have hq:i<q.length:=by omega
  have hd:=mxs_drop p q i hi hq
  have hmi:(G.mxs p q)[i]'(by omega)=G.mx p[i] q[i]:=by
   rw[List.drop_eq_getElem_cons (by omega)] at hd
   simp only[List.cons.injEq] at hd
   exact hd.1
  have e:(G.mxs p q).take (i+1)=(G.mxs p q).take i++[G.mx p[i] q[i]]:=by
   rw[List.take_succ_eq_append_getElem (by omega),hmi]
  have hlen:((G.mxs p q).take i).length<17592186044416:=by rw[List.length_take];omega
  by_cases hfit:p[i]=q[i]∨p[i]=1∨q[i]=1
  ·have hf2:G.fitz (p.take (i+1)) (q.take (i+1))=true:=by
    rw[List.take_succ_eq_append_getElem hi,List.take_succ_eq_append_getElem hq]
    have:∀ (u v:List Int),u.length=v.length→G.fitz u v=true→G.fitz (u++[p[i]]) (v++[q[i]])=true:=by
     intro u
     induction u with
     | nil =>
      intro v hv _
      have:v=[]:=List.eq_nil_of_length_eq_zero (by simpa using hv.symm)
      subst this
      simp only[List.nil_append,G.fitz,Bool.and_true,Bool.or_eq_true,beq_iff_eq]
      rcases hfit with h|h|h
      ·exact .inl (.inl h)
      ·exact .inl (.inr h)
      ·exact .inr h
     | cons y u ihu =>
      intro v hv h
      cases v with
      | nil=>simp at hv
      | cons z v =>
       simp only[G.fitz,Bool.and_eq_true] at h
       simp only[List.cons_append,G.fitz,Bool.and_eq_true]
       exact⟨h.1,ihu v (by simpa using hv) h.2⟩
    exact this _ _ (by rw[List.length_take,List.length_take];omega) hf
   have hnew:=ih hf2
   rw[e] at hnew
   refine Es (fun k=>?_) hnew
   rw[fat.l2,ip (by omega),ip (by omega),ip (by omega),ip (by omega),rdg p i hi,rdg q i hq,nx i _ hi (by omega)]
   simp only[ip hlen,mx_gr]
   by_cases e1:p[i]=q[i]
   ·rw[ip e1]
   ·rw[iN e1]
    by_cases e2:p[i]=1
    ·rw[ip e2]
    ·rw[iN e2,ip (by rcases hfit with h|h|h <;> first|exact absurd h e1|exact absurd h e2|exact h)]
  ·unfold G.tw
   rw[iN (fun h=>hfit (fitz_at _ _ i hi hq h))]
   refine Es (fun k=>?_) (En _)
   rw[fat.l2,ip (by omega),ip (by omega),ip (by omega),ip (by omega),rdg p i hi,rdg q i hq,iN (fun h=>hfit (.inl h)),iN (fun h=>hfit (.inr (.inl h))),iN (fun h=>hfit (.inr (.inr h)))]
theorem pad_one (n:Nat)(l:List Int)(h:l.length<n):G.pad n (1::l)=G.pad n l:=by
 unfold G.pad
 rw[show n-l.length=(n-(1::l).length)+1 by simp;omega,List.replicate_succ',List.append_assoc]
 rfl
theorem ref_two_1 (p:List Int)(hp:p.length≤6):∀ (d:Nat)(q:List Int),q.length+d=p.length →
  Ev (fun k=>fat.l1 k p q) (G.tw p (G.pad p.length q)):=by
 intro d
 induction d with
 | zero =>
  intro q hq
  rw[show p.length=q.length by omega,G.pad_self]
  refine Es (fun k=>?_) (ref_two_2 p q (by omega) hp 0 (by omega) (by simp[G.fitz]))
  rw[fat.l1,iN (by omega)];rfl
 | succ d ih =>
  intro q hq
  have:=ih (1::q) (by simp;omega)
  rw[pad_one _ _ (by omega)] at this
  refine Es (fun k=>?_) this
  rw[fat.l1,ip (by omega),Option.bind_some,ip (by simp;omega)];rfl
theorem ref_two_0 (q:List Int)(hq6:q.length≤6):∀ (d:Nat)(p:List Int),p.length+d=q.length →
  Ev (fun k=>fat.l0 k p q) (G.tw (G.pad q.length p) q):=by
 intro d
 induction d with
 | zero =>
  intro p hp
  rw[show q.length=p.length by omega,G.pad_self]
  have:=ref_two_1 p (by omega) 0 q (by omega)
  rw[show p.length=q.length by omega,G.pad_self] at this
  refine Es (fun k=>?_) this
  rw[fat.l0,iN (by omega)]
 | succ d ih =>
  intro p hp
  have:=ih (1::p) (by simp;omega)
  rw[pad_one _ _ (by omega)] at this
  refine Es (fun k=>?_) this
  rw[fat.l0,ip (by omega),Option.bind_some,ip (by simp;omega)];rfl
theorem ref_two (a b:List Int):Ev (fun k=>fat.f k a b) (G.two a b):=by
 unfold G.two
 refine Ec (fun k=>by rw[fat.f]) (Eb (ref_check a) (Eb (ref_check b) ?_))
 by_cases ha:G.chk a=0
 ·rw[ip ha]
  simp only[ip ha]
  by_cases hb:G.chk b=0
  ·rw[ip hb]
   simp only[ip hb]
   have h6:=(G.chk_ok ha).1
   have k6:=(G.chk_ok hb).1
   by_cases hl:a.length≤b.length
   ·rw[show G.rank2 a b=b.length by unfold G.rank2;omega,G.pad_self]
    exact ref_two_0 b k6 (b.length-a.length) a (by omega)
   ·rw[show G.rank2 a b=a.length by unfold G.rank2;omega,G.pad_self]
    refine Es (fun k=>?_) (ref_two_1 a h6 (a.length-b.length) b (by omega))
    rw[fat.l0,iN (by omega)]
  ·rw[iN hb]
   simp only[iN hb]
   exact En _
 ·rw[iN ha]
  simp only[iN ha]
  exact En _
theorem equal_l (a b:List Int)(hl:a.length=b.length)(hn:a.length≤1000000000):∀ i,i≤a.length →
  Ev (fun k=>fco.l0 k a b (a.length:Int) (i:Int)) (decide (a.drop i=b.drop i)):=by
 apply down
 ·refine Es (f:=fun _=>some true) (fun k=>?_) ?_
  ·rw[fco.l0,iN (by omega)]
  ·rw[List.drop_length,hl,List.drop_length];exact En true
 ·intro i hi ih
  rw[dropc a i hi,dropc b i (by omega)]
  by_cases e:rd a (i:Int)=rd b (i:Int)
  ·rw[show decide (rd a (i:Int)::a.drop (i+1)=rd b (i:Int)::b.drop (i+1))=decide (a.drop (i+1)=b.drop (i+1)) by simp[e]]
   refine Es (fun k=>?_) ih
   rw[fco.l0,ip (by omega),ip (by omega),ip (by omega),ip (by omega),ip e,nx i _ hi hn]
  ·rw[show decide (rd a (i:Int)::a.drop (i+1)=rd b (i:Int)::b.drop (i+1))=false by simp[e]]
   refine Es (fun k=>?_) (En false)
   rw[fco.l0,ip (by omega),ip (by omega),ip (by omega),ip (by omega),iN e]
theorem equal (a b:List Int)(hn:a.length≤1000000000):Ev (fun k=>fco.f k a b) (decide (a=b)):=by
 by_cases hl:a.length=b.length
 ·refine Ec (fun k=>?_) (by have:=equal_l a b hl hn 0 (by omega);simpa using this)
  rw[fco.f,ip (by omega)]
 ·rw[show decide (a=b)=false from decide_eq_false (fun e=>hl (by rw[e]))]
  refine Ec (fun k=>?_) (En false)
  rw[fco.f,iN (by omega)]
theorem rsame_l (a b:List Int)(hl:a.length=b.length)(hn:a.length≤1000000000):∀ i,i≤a.length →
  Ev (fun k=>fal.l0 k a b (a.length:Int) (i:Int)) (decide (a.drop i=b.drop i)):=by
 apply down
 ·refine Es (f:=fun _=>some true) (fun k=>?_) ?_
  ·rw[fal.l0,iN (by omega)]
  ·rw[List.drop_length,hl,List.drop_length];exact En true
 ·intro i hi ih
  rw[dropc a i hi,dropc b i (by omega)]
  by_cases e:rd a (i:Int)=rd b (i:Int)
  ·rw[show decide (rd a (i:Int)::a.drop (i+1)=rd b (i:Int)::b.drop (i+1))=decide (a.drop (i+1)=b.drop (i+1)) by simp[e]]
   refine Es (fun k=>?_) ih
   rw[fal.l0,ip (by omega),ip (by omega),ip (by omega),ip (by omega),ip e,nx i _ hi hn]
  ·rw[show decide (rd a (i:Int)::a.drop (i+1)=rd b (i:Int)::b.drop (i+1))=false by simp[e]]
   refine Es (fun k=>?_) (En false)
   rw[fal.l0,ip (by omega),ip (by omega),ip (by omega),ip (by omega),iN e]
theorem rsame (a b:List Int)(hn:a.length≤1000000000):Ev (fun k=>fal.f k a b) (decide (a=b)):=by
 by_cases hl:a.length=b.length
 ·refine Ec (fun k=>?_) (by have:=rsame_l a b hl hn 0 (by omega);simpa using this)
  rw[fal.f,ip (by omega)]
 ·rw[show decide (a=b)=false from decide_eq_false (fun e=>hl (by rw[e]))]
  refine Ec (fun k=>?_) (En false)
  rw[fal.f,iN (by omega)]
theorem two_fst_le (a b:List Int):(G.two a b).1.length≤6:=by
 unfold G.two
 split
 ·split
  ·unfold G.tw
   split
   ·split
    ·rename_i h;exact(G.chk_ok h).1
    ·simp
   ·simp
  ·simp
 ·simp
theorem fits (a b:List Int):Ev (fun k=>fcq.f k a b) (G.fts a b):=by
 refine Ec (fun k=>by rw[fcq.f]) (Eb (two a b) ?_)
 unfold G.fts
 by_cases h:(G.two a b).2=0
 ·simp only[ip h]
  rw[decide_eq_true h,Bool.true_and]
  refine Eb (f:=fun k t=>some t) ?_ (En _)
  refine Ec (fun k=>by rw[fck.f]) (Eb (f:=fun k t=>some t) (equal _ _ (by have:=two_fst_le a b;omega)) (En _))
 ·simp only[iN h]
  rw[decide_eq_false h,Bool.false_and]
  exact En _
theorem ref_fits (a b:List Int):Ev (fun k=>faq.f k a b) (G.fts a b):=by
 refine Ec (fun k=>by rw[faq.f]) (Eb (ref_two a b) ?_)
 unfold G.fts
 by_cases h:(G.two a b).2=0
 ·simp only[ip h]
  rw[decide_eq_true h,Bool.true_and]
  exact Eb (f:=fun k t=>some t) (rsame _ _ (by have:=two_fst_le a b;omega)) (En _)
 ·simp only[iN h]
  rw[decide_eq_false h,Bool.false_and]
  exact En _
theorem rplace_l (d r:List Int)(hok:G.chk d=0)(hi2:G.inb d r=true):∀ i,i≤d.length→∀ n:Int,0≤n→n*G.prod (d.drop i)+G.num (d.drop i) (r.drop i)≤64→G.inb (d.drop i) (r.drop i)=true →
  Ev (fun k=>fau.l0 k d r n (d.length:Int) (i:Int)) (n*G.prod (d.drop i)+G.num (d.drop i) (r.drop i)):=by
 obtain⟨h6,h1,h2⟩:=G.chk_ok hok
 have hl:=G.inb_length hi2
 apply down
 ·intro n hn hb _
  rw[List.drop_length,← hl,List.drop_length]
  simp only[G.prod,G.num,Int.mul_one,Int.add_zero]
  refine Es (fun k=>?_) (En _)
  rw[fau.l0,iN (by omega)]
 ·intro i hi ih n hn hb hin
  have hq:=G.num_lt (d.drop (i+1)) (r.drop (i+1)) (fun x hx=>h1 x (List.mem_of_mem_drop hx))
  have hp:=G.prod_pos (d.drop (i+1)) (fun x hx=>h1 x (List.mem_of_mem_drop hx))
  have hx1:1≤rd d (i:Int):=by rw[rdg d i (by omega)];exact h1 _ (List.getElem_mem _)
  rw[dropc d i (by omega),dropc r i (by omega)] at hin hb ⊢
  simp only[G.inb,Bool.and_eq_true,decide_eq_true_eq] at hin
  obtain⟨q1,q2⟩:=hq hin.2
  simp only[G.prod,G.num] at hb ⊢
  have e:n*(rd d (i:Int)*G.prod (d.drop (i+1)))+(rd r (i:Int)*G.prod (d.drop (i+1))+G.num (d.drop (i+1)) (r.drop (i+1)))=(n*rd d (i:Int)+rd r (i:Int))*G.prod (d.drop (i+1))+G.num (d.drop (i+1)) (r.drop (i+1)):=by
   rw[Int.add_mul,← Int.mul_assoc];omega
  rw[e] at hb ⊢
  have b1:0≤n*rd d (i:Int):=Int.mul_nonneg hn (by omega)
  have b2:(n*rd d (i:Int)+rd r (i:Int))*1≤(n*rd d (i:Int)+rd r (i:Int))*G.prod (d.drop (i+1)):=Int.mul_le_mul_of_nonneg_left hp (by omega)
  refine Es (fun k=>?_) (ih _ (by omega) hb hin.2)
  rw[fau.l0,ip (by omega),ip (by omega),ip (by omega),ip (by omega),show wrap64 (n*rd d (i:Int))=n*rd d (i:Int) from w64 (by omega) (by omega),w64 (by omega) (by omega),nx i _ hi (by omega)]
theorem rplace (d r:List Int)(hok:G.chk d=0)(hi:G.inb d r=true):Ev (fun k=>fau.f k d r) (G.num d r):=by
 obtain⟨h6,h1,h2⟩:=G.chk_ok hok
 have hb:=(G.num_lt d r h1 hi)
 have:=rplace_l d r hok hi 0 (by omega) 0 (by omega) (by simp;omega) (by simpa using hi)
 rw[List.drop_zero,List.drop_zero,Int.zero_mul,Int.zero_add] at this
 exact this
theorem srcs_1 (a b:List Int)(L:List (List Int))(hab:a.length≤b.length)(b6:b.length≤6)(q:Nat)(hq:q<L.length)(hLl:L.length≤64)(hlen:L[q].length=b.length)(acc:List Int)(hacc:acc.length≤64)(ca:G.chk a=0)
  (hin:G.inb a (G.sat a (L[q].drop (b.length-a.length)))=true) (r:List Int)
  (h:Ev (fun k=>fas.l0 k a b L (acc++[G.num a (G.sat a (L[q].drop (b.length-a.length)))]) (L.length:Int) ((q+1:Nat):Int)) r) :
  ∀ i,i≤a.length→∀ o:List Int,o=(G.sat a (L[q].drop (b.length-a.length))).take i →
  Ev (fun k=>fas.l1 k a b L acc (q:Int) o (L.length:Int) (q:Int) (a.length:Int) (i:Int)) r:=by
 have sl:=G.inb_length hin
 apply down
 ·intro o ho
  rw[List.take_of_length_le (by omega)] at ho
  subst ho
  refine Es (fun k=>by rw[fas.l1,iN (by omega)]) (Eb (rplace a _ ca hin) ?_)
  refine Ec (fun k=>?_) h
  rw[ip (by omega),nx q _ hq (by omega)]
 ·intro i hi ih o ho
  have sg:∀ (a k:List Int) (hk:k.length=a.length) (i:Nat) (hi:i<a.length),(G.sat a k).take (i+1)=(G.sat a k).take i++[if a[i]=1 then 0 else k[i]'(by omega)]:=by
   intro a
   induction a with
   | nil=>intro k hk i hi;simp at hi
   | cons x a ih =>
    intro k hk i hi
    cases k with
    | nil=>simp at hk
    | cons y k =>
     cases i with
     | zero=>simp[G.sat]
     | succ i=>simpa [G.sat] using ih k (by simpa using hk) i (by simpa using hi)
  have e:=sg a (L[q].drop (b.length-a.length)) (by rw[List.length_drop];omega) i hi
  have hol:o.length≤6:=by rw[ho,List.length_take];omega
  rw[List.getElem_drop] at e
  by_cases h1:a[i]=1
  ·rw[ip h1,← ho] at e
   refine Es (fun k=>?_) (ih (o++[0]) e.symm)
   rw[fas.l1,ip (by omega),ip (by omega),ip (by omega),rdg a i hi,ip h1,ip (by omega),nx i _ hi (by omega)]
  ·rw[iN h1,← ho] at e
   refine Es (fun k=>?_) (ih _ e.symm)
   rw[fas.l1,ip (by omega),ip (by omega),ip (by omega),rdg a i hi,iN h1,ip (by omega),ip (by omega),show wrap64 ((b.length:Int)-(a.length:Int))=(b.length:Int)-(a.length:Int) from w64 (by omega) (by omega),w64 (by omega) (by omega),ip (by omega),rdl L q hq,ip (by omega),ip (by omega),
    show ((b.length:Int)-(a.length:Int)+(i:Int))=((b.length-a.length+i:Nat):Int) by omega,rdg _ _ (by omega),nx i _ hi (by omega)]
theorem srcs_0 (a b:List Int)(h:G.fts a b=true):∀ q,q≤(G.alls b).length →
  Ev (fun k=>fas.l0 k a b (G.alls b) ((G.srcs a b).take q) ((G.alls b).length:Int) (q:Int)) (G.srcs a b):=by
 obtain⟨ca,cb,hle,hsub⟩:=(G.fts_iff a b).1 h
 have b6:=(G.chk_ok cb).1
 have hll:=G.alls_length b
 have hc:=G.cnt_ok cb
 have hsl:=G.srcs_length a b h
 apply down
 ·rw[List.take_of_length_le (by omega)]
  refine Es (fun k=>?_) (En _)
  rw[fas.l0,iN (by omega)]
 ·intro q hq ih
  have hlen:(G.alls b)[q].length=b.length:=by rw[G.alls_get,G.dig_length]
  have e:(G.srcs a b).take (q+1)=(G.srcs a b).take q++[G.num a (G.sat a ((G.alls b)[q].drop (b.length-a.length)))]:=by
   rw[List.take_succ_eq_append_getElem (by omega),G.srcs_get a b h,G.alls_get];rfl
  rw[e] at ih
  refine Es (fun k=>?_) (srcs_1 a b (G.alls b) hle b6 q hq (by omega) hlen _ (by rw[List.length_take];omega) ca (by rw[G.alls_get];exact G.src_in h _) _ ih 0 (by omega) [] (by simp))
  rw[fas.l0,ip (by omega)];rfl
theorem sources (a b:List Int):Ev (fun k=>fas.f k a b) (G.srcs a b):=by
 refine Ec (fun k=>by rw[fas.f]) (Eb (ref_fits a b) ?_)
 by_cases h:G.fts a b=true
 ·simp only[ip h]
  refine Eb (ref_all b) ?_
  have:=srcs_0 a b h 0 (by omega)
  rw[List.take_zero] at this
  exact this
 ·simp only[iN h]
  unfold G.srcs
  rw[iN h]
  exact En _
theorem rplace20_l (d r:List Int)(hok:G.chk d=0):∀ i,i≤(G.alls d).length→(G.ind d r=true→(i:Int)≤G.num d r) →
  Ev (fun k=>fao.l0 k r (G.alls d) ((G.alls d).length:Int) (i:Int)) (G.plr d r):=by
 obtain⟨h6,h1,h2⟩:=G.chk_ok hok
 have hlen:=G.alls_length d
 rw[(G.cnt_ok hok).1] at hlen
 apply down
 ·intro hi
  have:¬ G.ind d r=true:=fun hh=>by
   have:=hi hh
   unfold G.ind at hh
   simp only[Bool.and_eq_true] at hh
   have:=(G.num_lt d r h1 hh.2).2
   omega
  unfold G.plr
  rw[iN this]
  refine Es (fun k=>?_) (En _)
  rw[fao.l0,iN (by omega)]
 ·intro i hi ih hle
  have hs:=rsame (G.dig d (i:Int)) r (by rw[G.dig_length];omega)
  refine Es (f:=fun k=>(fal.f k (G.dig d (i:Int)) r).bind fun t=>if t=true then some (i:Int)else fao.l0 k r (G.alls d) ((G.alls d).length:Int) ((i+1:Nat):Int)) (fun k=>?_) (Eb hs ?_)
  ·rw[fao.l0,ip (by omega),ip (by omega),ip (by omega),rdl _ i hi,G.alls_get,nx i _ hi (by omega)]
  ·by_cases e:G.dig d (i:Int)=r
   ·rw[decide_eq_true e]
    simp only[if_true]
    have hp:G.plr d r=(i:Int):=by
     unfold G.plr G.ind
     rw[← e,decide_eq_true hok,G.inb_dig d h1,Bool.and_self,ip rfl]
     exact G.num_dig_lt d h1 _ (by omega) (by omega)
    rw[hp];exact En _
   ·rw[decide_eq_false e]
    simp only[Bool.false_eq_true,if_false]
    refine ih (fun hh=>?_)
    have:=hle hh
    rcases Int.lt_or_le (i:Int) (G.num d r)with hlt|hge
    ·omega
    ·exfalso
     unfold G.ind at hh
     simp only[Bool.and_eq_true] at hh
     have:=G.dig_num d r h1 hh.2
     rw[show G.num d r=(i:Int) by omega] at this
     exact e this
theorem ref_place20 (d r:List Int):Ev (fun k=>fao.f k d r) (G.plr d r):=by
 refine Ec (fun k=>by rw[fao.f]) (Eb (ref_all d) ?_)
 by_cases h:G.chk d=0
 ·refine rplace20_l d r h 0 (by omega) (fun hh=>?_)
  unfold G.ind at hh
  simp only[Bool.and_eq_true] at hh
  have:=(G.num_lt d r (G.chk_ok h).2.1 hh.2).1
  omega
 ·unfold G.plr G.ind G.alls
  rw[iN h,decide_eq_false h]
  refine Es (fun k=>?_) (En _)
  rw[fao.l0,iN (by simp)];simp
theorem mul_bound {a t:Int} (h0:0≤a)(h1:a≤63)(ht:a=0∨(-64<t∧t<64)):-4000≤a*t∧a*t≤4000:=by
 rcases ht with rfl|⟨t0,t1⟩
 ·simp
 ·have e1:a*t≤a*63:=Int.mul_le_mul_of_nonneg_left (by omega) h0
  have e2:a*(-63)≤a*t:=Int.mul_le_mul_of_nonneg_left (by omega) h0
  omega
theorem right_l (o:Int)(d s:List Int)(room:Int)(hok:G.chk d=0)(hl:s.length=d.length)(hr0:1≤room)(hr:room≤64):∀ i,i≤d.length→∀ lo hi:Int,-(64+4096*(i:Int))≤lo→lo≤64+4096*(i:Int)→-(64+4096*(i:Int))≤hi→hi≤64+4096*(i:Int) →
  Ev (fun k=>fcx.l0 k room lo hi d (d.length:Int) (i:Int) o d s) (G.sok room (d.drop i) (s.drop i) && decide (0≤lo+G.low (d.drop i) (s.drop i)) && decide (hi+G.hgh (d.drop i) (s.drop i)<room)):=by
 obtain⟨h6,h1,h2⟩:=G.chk_ok hok
 apply down
 ·intro lo hi a1 a2 a3 a4
  rw[List.drop_length,← hl,List.drop_length]
  simp only[G.sok,G.low,G.hgh,Bool.true_and,Int.add_zero]
  by_cases h:lo ≥ 0
  ·rw[decide_eq_true (show 0≤lo from h),Bool.true_and]
   refine Es (fun k=>?_) (En _)
   rw[fcx.l0,iN (by omega),ip h]
  ·rw[decide_eq_false (show ¬ 0≤lo from h),Bool.false_and]
   refine Es (fun k=>?_) (En _)
   rw[fcx.l0,iN (by omega),iN h]
 ·intro i hi ih lo hg a1 a2 a3 a4
  have hx:=h1 _ (List.getElem_mem hi)
  have hx2:=G.ok_le hok _ (List.getElem_mem hi)
  rw[← rdg d i hi] at hx hx2
  rw[dropc d i hi,dropc s i (by omega)]
  simp only[G.sok,G.low,G.hgh]
  by_cases e1:rd d (i:Int)=1
  ·have:=ih lo hg (by omega) (by omega) (by omega) (by omega)
   rw[e1]
   simp only[Int.le_refl,decide_true,Bool.true_or,Bool.true_and,Int.sub_self,Int.zero_mul,Int.lt_irrefl,if_false,Int.zero_add]
   refine Es (fun k=>?_) this
   rw[fcx.l0,ip (by omega),ip (by omega),ip (by omega),ip (by omega),fdc.f,ip e1,Option.bind_some,ip rfl,nx i _ hi (by omega),show mn 0 0=0 by decide,show mx 0 0=0 by decide,Int.add_zero,Int.add_zero,w64 (by omega) (by omega),w64 (by omega) (by omega)]
  ·rw[decide_eq_false (show ¬ rd d (i:Int)≤1 by omega),Bool.false_or]
   have hwr:wrap64 (-room)=-room:=w64 (by omega) (by omega)
   by_cases e2:rd s (i:Int) ≥ room
   ·rw[decide_eq_false (show ¬ rd s (i:Int)<room by omega),Bool.and_false,Bool.false_and,Bool.false_and,Bool.false_and]
    refine Es (fun k=>?_) (En _)
    rw[fcx.l0,ip (by omega),ip (by omega),ip (by omega),ip (by omega),fdc.f,iN e1,ip e2,Option.bind_some,iN (by simp)]
   ·by_cases e3:rd s (i:Int)≤-room
    ·rw[decide_eq_false (show ¬ -room<rd s (i:Int) by omega),Bool.false_and,Bool.false_and,Bool.false_and,Bool.false_and]
     refine Es (fun k=>?_) (En _)
     rw[fcx.l0,ip (by omega),ip (by omega),ip (by omega),ip (by omega),fdc.f,iN e1,iN e2,hwr,ip e3,Option.bind_some,iN (by simp)]
    ·obtain⟨b1,b2⟩:=mul_bound (a:=rd d (i:Int)-1) (t:=rd s (i:Int)) (by omega) (by omega) (.inr ⟨by omega,by omega⟩)
     rw[decide_eq_true (show -room<rd s (i:Int) by omega),decide_eq_true (show rd s (i:Int)<room by omega),Bool.true_and,Bool.true_and]
     have hwm:wrap64 (wrap64 (rd d (i:Int)-1)*rd s (i:Int))=(rd d (i:Int)-1)*rd s (i:Int):=by rw[w64 (x:=rd d (i:Int)-1) (by omega) (by omega),w64 (by omega) (by omega)]
     obtain⟨m,hm⟩:∃ m,(rd d (i:Int)-1)*rd s (i:Int)=m:=⟨_,rfl⟩
     rw[hm] at b1 b2 hwm
     simp only[hm]
     have hmn:mn m 0=if m<0 then m else 0:=by unfold mn;split <;> split <;> omega
     have hmx:mx m 0=if m<0 then 0 else m:=by unfold mx;rfl
     have hlo:wrap64 (lo+mn m 0)=lo+if m<0 then m else 0:=by rw[hmn,w64] <;> split <;> omega
     have hhg:wrap64 (hg+mx m 0)=hg+if m<0 then 0 else m:=by rw[hmx,w64] <;> split <;> omega
     have:=ih (lo+if m<0 then m else 0) (hg+if m<0 then 0 else m) (by split <;> omega) (by split <;> omega) (by split <;> omega) (by split <;> omega)
     rw[← Int.add_assoc,← Int.add_assoc]
     refine Es (fun k=>?_) this
     rw[fcx.l0,ip (by omega),ip (by omega),ip (by omega),ip (by omega),fdc.f,iN e1,iN e2,hwr,iN e3,hwm,Option.bind_some,ip rfl,nx i _ hi (by omega),hlo,hhg]
theorem view_rgt (o:Int)(d s:List Int)(room:Int):Ev (fun k=>fcx.f k o d s room) (G.rgt o d s room):=by
 have no:¬ G.vok o d s room→G.rgt o d s room=false:=fun h=>by unfold G.rgt;rw[decide_eq_false h];rfl
 have stop:¬ G.vok o d s room→Ev (fun k=>fcx.j0 k room true o d s) (G.rgt o d s room):=fun h=>by
  rw[no h]
  refine Es (fun k=>?_) (En _)
  rw[fcx.j0,ip rfl]
 refine Ec (fun k=>by rw[fcx.f,shape_check,Option.bind_some]) ?_
 by_cases h1:G.chk d=0
 ·simp only[ip h1]
  by_cases h2:(s.length:Int)=(d.length:Int)
  ·simp only[ip h2]
   by_cases h3:room > 64
   ·simp only[ip h3];exact stop (fun hv=>by have:=hv.2.2.1;omega)
   ·simp only[iN h3]
    by_cases h4:o<0
    ·simp only[ip h4];exact stop (fun hv=>by have:=hv.2.2.2.1;omega)
    ·simp only[iN h4]
     by_cases h5:o ≥ room
     ·rw[decide_eq_true h5];exact stop (fun hv=>by have:=hv.2.2.2.2.1;omega)
     ·rw[decide_eq_false h5]
      have:=right_l o d s room h1 (by omega) (by omega) (by omega) 0 (by omega) o o (by omega) (by omega) (by omega) (by omega)
      rw[List.drop_zero,List.drop_zero] at this
      have e:G.rgt o d s room=(G.sok room d s && decide (0≤o+G.low d s) && decide (o+G.hgh d s<room)):=by
       have hd:decide (G.vok o d s room)=G.sok room d s:=by
        by_cases hs:G.sok room d s=true
        ·exact(decide_eq_true ⟨h1,by omega,by omega,by omega,by omega,hs⟩).trans hs.symm
        ·exact(decide_eq_false (fun hv=>hs hv.2.2.2.2.2)).trans (Bool.eq_false_iff.2 hs).symm
       unfold G.rgt;rw[hd]
      rw[e]
      refine Es (fun k=>?_) this
      rw[fcx.j0,iN (by simp)];rfl
  ·simp only[iN h2];exact stop (fun hv=>by have:=hv.2.1;omega)
 ·simp only[iN h1];exact stop (fun hv=>h1 hv.1)
theorem view_rgt64 (o:Int)(d s:List Int):Ev (fun k=>fdd.f k o d s) (G.rgt o d s 64) :=
 Ec (fun k=>by rw[fdd.f]) (Eb (view_rgt o d s 64) (En _))
theorem rws_drop {d s:List Int} (h:G.rws d s=true):∀ i,G.rws (d.drop i) (s.drop i)=true:=by
 intro i
 induction i generalizing d s with
 | zero=>simpa using h
 | succ i ih =>
  cases d with
  | nil=>simp[G.rws]
  | cons x d =>
   cases s with
   | nil=>simp;cases d.drop i <;> rfl
   | cons t s =>
    simp only[G.rws,Bool.and_eq_true] at h
    simpa using ih h.1
theorem vrow_l (o:Int)(d s:List Int)(hok:G.chk d=0)(hl:s.length=d.length):∀ i,i≤d.length→G.rws (d.drop i) (s.drop i)=true →
  Ev (fun k=>fcy.l0 k (G.prod (d.drop i)) ((i:Int)-1) o d s) (G.rws d s):=by
 obtain⟨h6,h1,h2⟩:=G.chk_ok hok
 intro i
 induction i with
 | zero =>
  intro _ h
  rw[List.drop_zero,List.drop_zero] at h
  rw[h]
  refine Es (fun k=>?_) (En _)
  rw[fcy.l0,iN (by omega)]
 | succ i ih =>
  intro hi h
  have hlt:i<d.length:=by omega
  have hd:d.drop i=rd d (i:Int)::d.drop (i+1):=dropc d i hlt
  have hs:s.drop i=rd s (i:Int)::s.drop (i+1):=dropc s i (by omega)
  have hx:1≤rd d (i:Int):=by rw[rdg d i hlt];exact h1 _ (List.getElem_mem hlt)
  have hx2:rd d (i:Int)≤64:=by rw[rdg d i hlt];exact G.ok_le hok _ (List.getElem_mem hlt)
  have hp:=G.prod_pos (d.drop (i+1)) (fun y hy=>h1 y (List.mem_of_mem_drop hy))
  have hpi:=(G.chk_ok (G.ok_drop hok i)).2.2
  have hpe:G.prod (d.drop i)=rd d (i:Int)*G.prod (d.drop (i+1)):=by rw[hd];rfl
  rw[hpe] at ih hpi
  have hw:wrap64 (G.prod (d.drop (i+1))*rd d (i:Int))=rd d (i:Int)*G.prod (d.drop (i+1)):=by
   have:0≤rd d (i:Int)*G.prod (d.drop (i+1)):=Int.mul_nonneg (by omega) (by omega)
   rw[Int.mul_comm,w64 (by omega) (by omega)]
  have hri:G.rws (d.drop i) (s.drop i)=(decide (rd d (i:Int)≤1) || decide (rd s (i:Int)=G.prod (d.drop (i+1)))):=by
   rw[hd,hs];simp only[G.rws,h,Bool.true_and]
  by_cases e1:rd d (i:Int) > 1
  ·by_cases e2:rd s (i:Int)=G.prod (d.drop (i+1))
   ·refine Es (fun k=>?_) (ih (by omega) (by rw[hri,decide_eq_true e2,Bool.or_true]))
    rw[fcy.l0,show (((i+1:Nat):Int)-1)=(i:Int) by omega,ip (by omega),ip (by omega),ip (by omega),ip e1,ip (by omega),ip e2,hw,w64 (by omega) (by omega)]
   ·have er:G.rws d s=false:=by
     rw[Bool.eq_false_iff]
     intro hr
     have:=rws_drop hr i
     rw[hri,decide_eq_false e2,decide_eq_false (by omega)] at this
     cases this
    rw[er]
    refine Es (fun k=>?_) (En _)
    rw[fcy.l0,show (((i+1:Nat):Int)-1)=(i:Int) by omega,ip (by omega),ip (by omega),ip (by omega),ip e1,ip (by omega),iN e2]
  ·refine Es (fun k=>?_) (ih (by omega) (by rw[hri,decide_eq_true (by omega),Bool.true_or]))
   rw[fcy.l0,show (((i+1:Nat):Int)-1)=(i:Int) by omega,ip (by omega),ip (by omega),ip (by omega),iN e1,hw,w64 (by omega) (by omega)]
theorem view_row (o:Int)(d s:List Int):Ev (fun k=>fcy.f k o d s) (G.row (G.cls o d s 64)):=by
 refine Ec (fun k=>by rw[fcy.f]) (Eb (view_rgt64 o d s) ?_)
 by_cases h:G.rgt o d s 64=true
 ·rw[← G.rws_row h,h]
  simp only[if_true]
  have hv:=(G.rgt_ok h).1
  have h6:=(G.chk_ok hv.1).1
  have:=vrow_l o d s hv.1 hv.2.1 d.length (by omega) (by rw[List.drop_length];rfl)
  rw[List.drop_length] at this
  refine Ec (fun k=>?_) this
  rw[w64 (by omega) (by omega)];rfl
 ·rw[G.cls_none h,Bool.eq_false_iff.2 h]
  exact En _
theorem view_whole (d:List Int)(hn:d.length≤100):Ev (fun k=>fda.f k d) (if G.chk d=0 then(0,d,G.stp d)else(0,[],[])):=by
 refine Ec (fun k=>by rw[fda.f,shape_check,Option.bind_some]) ?_
 by_cases h:G.chk d=0
 ·rw[ip h]
  simp only[ip h]
  refine Ec (fun k=>by rw[fcn.f,ip (by omega),Option.bind_some]) ?_
  refine Eb (shape_steps d) ?_
  rw[show G.steps d=G.stp d by unfold G.steps;rw[ip h]]
  exact En _
 ·rw[iN h]
  simp only[iN h]
  exact En _
theorem rd_at0 (l:List Int)(i:Int):rd l i=G.at0 l i:=rfl
theorem copied (o:Int)(d s:List Int)(hd:d.length≤100)(hs:s.length≤100):fdb.f o d s=some (o,d,s):=by
 rw[fdb.f,fcn.f,ip (by omega),Option.bind_some,fcn.f,ip (by omega),Option.bind_some]
theorem steps_bound {o:Int} {d s:List Int} {r:Int} (h:G.rgt o d s r=true)(i:Nat)(hi:i<d.length):1≤G.at0 d (i:Int)∧G.at0 d (i:Int)≤64∧(1<G.at0 d (i:Int)→-64<G.at0 s (i:Int)∧G.at0 s (i:Int)<64):=by
 obtain⟨v1,v2,v3,v4,v5,v6⟩:=(G.rgt_ok h).1
 have hx:=(G.chk_ok v1).2.1 _ (List.getElem_mem hi)
 have hx2:=G.ok_le v1 _ (List.getElem_mem hi)
 have hg:=G.sok_get v6 i hi (by omega)
 rw[G.at0_get d i hi,G.at0_get s i (by omega)]
 exact⟨hx,hx2,fun hlt=>by rcases hg with hg|hg <;> omega⟩
theorem view_flip (o:Int)(d s:List Int)(a:Int):Ev (fun k=>fcu.f k o d s a) (G.flp o d s a):=by
 refine Ec (fun k=>by rw[fcu.f]) (Eb (view_rgt64 o d s) ?_)
 unfold G.flp
 by_cases h:G.rgt o d s 64=true
 ·rw[h]
  simp only[if_true]
  obtain⟨v1,v2,v3,v4,v5,v6⟩:=(G.rgt_ok h).1
  have h6:=(G.chk_ok v1).1
  by_cases h0:a<0
  ·rw[ip (.inl h0)]
   simp only[ip h0]
   refine Es (fun k=>?_) (En _)
   rw[fcu.j0,ip rfl]
  ·simp only[iN h0]
   by_cases h1:a ≥ (d.length:Int)
   ·rw[decide_eq_true h1,ip (.inr h1)]
    refine Es (fun k=>?_) (En _)
    rw[fcu.j0,ip rfl]
   ·rw[decide_eq_false h1,iN (by omega)]
    obtain⟨i,rfl⟩:=Int.eq_ofNat_of_zero_le (show 0≤a by omega)
    obtain⟨b1,b2,b3⟩:=steps_bound h i (by omega)
    refine Es (f:=fun k=>some _) (fun k=>?_) (En _)
    rw[fcu.j0,iN (by simp),copied o d s (by omega) (by omega),Option.bind_some,ip (by omega),ip (by omega),rd_at0,rd_at0]
    by_cases h2:1<G.at0 d (i:Int)
    ·obtain⟨c1,c2⟩:=b3 h2
     obtain⟨m1,m2⟩:=mul_bound (a:=G.at0 d (i:Int)-1) (t:=G.at0 s (i:Int)) (by omega) (by omega) (.inr ⟨c1,c2⟩)
     rw[ip h2,ip h2,ip (by omega),ip (by simp only;omega),w64 (x:=G.at0 d (i:Int)-1) (by omega) (by omega),w64 (x:=(G.at0 d (i:Int)-1)*G.at0 s (i:Int)) (by omega) (by omega),w64 (by omega) (by omega),w64 (by omega) (by omega)]
    ·rw[iN h2,iN h2]
 ·rw[Bool.eq_false_iff.2 h]
  exact En _
theorem permute_l (o:Int)(d s dims axes:List Int)(hl:axes.length≤1000000000)(hr:∀ a∈axes,0≤a∧a<(s.length:Int)):∀ i,i≤axes.length→∀ ac:List Int,ac.length≤i →
  Ev (fun k=>fcv.l0 k dims ac axes (axes.length:Int) (i:Int) o d s) (o,dims,ac++G.prm s (axes.drop i),0):=by
 apply down
 ·intro ac _
  rw[List.drop_length]
  simp only[G.prm,List.map_nil,List.append_nil]
  refine Es (fun k=>?_) (En _)
  rw[fcv.l0,iN (by omega)]
 ·intro i hi ih ac hac
  have hx:=hr _ (List.getElem_mem hi)
  rw[← rdg axes i hi] at hx
  have:=ih (ac++[rd s (rd axes (i:Int))]) (by simp;omega)
  rw[List.append_assoc] at this
  rw[dropc axes i hi]
  refine Es (fun k=>?_) this
  rw[fcv.l0,ip (by omega),ip (by omega),ip (by omega),ip hx.1,ip hx.2,ip (by omega),nx i _ hi hl]
theorem view_permute (o:Int)(d s axes:List Int)(hl:axes.length≤1000000000):Ev (fun k=>fcv.f k o d s axes) (G.pmt o d s axes):=by
 refine Ec (fun k=>by rw[fcv.f]) (Eb (view_rgt64 o d s) ?_)
 unfold G.pmt
 by_cases h:G.rgt o d s 64=true
 ·rw[h]
  simp only[if_true]
  have v2:=(G.rgt_ok h).1.2.1
  refine Eb (shape_perm d axes hl) ?_
  by_cases h2:(G.perm d axes).2=0
  ·obtain⟨p1,p2,p3,p4,p5⟩:=G.perm_ok h2
   simp only[ip h2,p5]
   exact permute_l o d s (G.prm d axes) axes hl (fun a ha=>by have:=p2.range a ha;omega) 0 (by omega) [] (by simp)
  ·simp only[iN h2]
   exact En _
 ·rw[Bool.eq_false_iff.2 h]
  exact En _
theorem number_l (d r:List Int)(hok:G.chk d=0)(hi2:G.inb d r=true):∀ i,i≤r.length→∀ n:Int,0≤n→n*G.prod (d.drop i)+G.num (d.drop i) (r.drop i)≤64→G.inb (d.drop i) (r.drop i)=true →
  Ev (fun k=>fbc.l0 k d r n (d.length:Int) (i:Int)) (n*G.prod (d.drop i)+G.num (d.drop i) (r.drop i)):=by
 obtain⟨h6,h1,h2⟩:=G.chk_ok hok
 have hl:=G.inb_length hi2
 apply down
 ·intro n hn hb _
  rw[hl,List.drop_length,← hl,List.drop_length]
  simp only[G.prod,G.num,Int.mul_one,Int.add_zero]
  refine Es (fun k=>?_) (En _)
  rw[fbc.l0,iN (by omega)]
 ·intro i hi ih n hn hb hin
  have hq:=G.num_lt (d.drop (i+1)) (r.drop (i+1)) (fun x hx=>h1 x (List.mem_of_mem_drop hx))
  have hp:=G.prod_pos (d.drop (i+1)) (fun x hx=>h1 x (List.mem_of_mem_drop hx))
  have hx1:1≤rd d (i:Int):=by rw[rdg d i (by omega)];exact h1 _ (List.getElem_mem _)
  rw[dropc d i (by omega),dropc r i hi] at hin hb ⊢
  simp only[G.inb,Bool.and_eq_true,decide_eq_true_eq] at hin
  obtain⟨q1,q2⟩:=hq hin.2
  simp only[G.prod,G.num] at hb ⊢
  have e:n*(rd d (i:Int)*G.prod (d.drop (i+1)))+(rd r (i:Int)*G.prod (d.drop (i+1))+G.num (d.drop (i+1)) (r.drop (i+1)))=(n*rd d (i:Int)+rd r (i:Int))*G.prod (d.drop (i+1))+G.num (d.drop (i+1)) (r.drop (i+1)):=by
   rw[Int.add_mul,← Int.mul_assoc];omega
  rw[e] at hb ⊢
  have b1:0≤n*rd d (i:Int):=Int.mul_nonneg hn (by omega)
  have b2:(n*rd d (i:Int)+rd r (i:Int))*1≤(n*rd d (i:Int)+rd r (i:Int))*G.prod (d.drop (i+1)):=Int.mul_le_mul_of_nonneg_left hp (by omega)
  refine Es (fun k=>?_) (ih _ (by omega) hb hin.2)
  rw[fbc.l0,ip (by omega),ip (by omega),ip (by omega),ip (by omega),show wrap64 (n*rd d (i:Int))=n*rd d (i:Int) from w64 (by omega) (by omega),w64 (by omega) (by omega),nx i _ hi (by omega)]
theorem number (d r:List Int)(hok:G.chk d=0)(h:G.inb d r=true):Ev (fun k=>fbc.f k d r) (G.num d r):=by
 obtain⟨h6,h1,h2⟩:=G.chk_ok hok
 have hb:=G.num_lt d r h1 h
 have:=number_l d r hok h 0 (by omega) 0 (by omega) (by simp;omega) (by simpa using h)
 rw[List.drop_zero,List.drop_zero,Int.zero_mul,Int.zero_add] at this
 exact Ec (fun k=>by rw[fbc.f];rfl) this
theorem reshape_l (d to_:List Int)(ht:to_.length≤100)(n:Nat)(hn:n≤64):∀ i,i≤n→Ev (fun k=>fay.l0 k to_ ((List.range i).map fun i:Nat=>(i:Int)) (n:Int) (i:Int)) (to_,(List.range n).map fun i:Nat=>(i:Int),0):=by
 apply down
 ·refine Es (fun k=>?_) (En _)
  rw[fay.l0,iN (by omega)]
  simp only[Option.bind_some,List.nil_append]
  rw[ip (by simp;omega)]
 ·intro i hi ih
  rw[List.range_succ,List.map_append,List.map_singleton] at ih
  refine Es (fun k=>?_) ih
  rw[fay.l0,ip (by omega),ip (by simp;omega),nx i _ hi (by omega)]
theorem ref_reshape (d to_:List Int):Ev (fun k=>fay.f k d to_) (G.rsp d to_):=by
 refine Ec (fun k=>by rw[fay.f]) (Eb (ref_check to_) ?_)
 unfold G.rsp
 by_cases h:G.chk to_=0
 ·simp only[ip h]
  refine Eb (ref_count to_) (Eb (ref_count d) ?_)
  by_cases h2:G.cnt to_=G.cnt d
  ·simp only[ip h2]
   refine Eb (ref_count d) ?_
   have hc:=G.cnt_ok h
   obtain⟨n,hn⟩:=Int.eq_ofNat_of_zero_le (show 0≤G.cnt d by omega)
   have:=reshape_l d to_ (by have:=(G.chk_ok h).1;omega) n (by omega) 0 (by omega)
   rw[hn]
   exact this
  ·simp only[iN h2]
   exact En _
 ·simp only[iN h]
  exact En _
theorem take_l (d:List Int)(hok:G.chk d=0)(i0:Nat)(hi0:i0<d.length)(marks:List Int)(hm:∀ m∈marks,0≤m∧m<G.at0 d (i0:Int))(out:List Int)(hout:out=d.set i0 (marks.length:Int))(ho:G.chk out=0):∀ q,q≤(G.alls out).length→∀ ac:List Int,ac.length≤q →
  Ev (fun k=>fbb.l0 k d (i0:Int) marks out (G.alls out) ac ((G.alls out).length:Int) (q:Int)) (out,ac++((G.alls out).drop q).map (fun p=>G.num d (G.tkf (i0:Int) marks p)),0):=by
 have hlen:=G.alls_length out
 have h64:=(G.cnt_ok ho).2.2
 apply down
 ·intro ac _
  rw[List.drop_length]
  simp only[List.map_nil,List.append_nil]
  refine Es (fun k=>?_) (En _)
  rw[fbb.l0,iN (by omega)]
 ·intro q hq ih ac hac
  have hp:=(G.mem_alls ho).1 (List.getElem_mem hq)
  have hpl:=G.inb_length hp
  obtain⟨_,hpi⟩:=(G.inb_iff _ _).1 hp
  have hol:out.length=d.length:=by rw[hout];simp
  have h6:=(G.chk_ok hok).1
  have ha:=hpi i0 (by omega)
  have e1:G.at0 out (i0:Int)=(marks.length:Int):=by rw[hout];exact G.at0_set_same _ _ hi0 _
  rw[e1] at ha
  obtain⟨j,hj⟩:=Int.eq_ofNat_of_zero_le ha.1
  have hjl:j<marks.length:=by omega
  have hmj:=hm _ (List.getElem_mem hjl)
  have hnum:G.inb d (G.tkf (i0:Int) marks (G.alls out)[q])=true:=by
   refine(G.inb_iff _ _).2 ⟨by unfold G.tkf;simp;omega,fun b hb=>?_⟩
   unfold G.tkf
   rw[Int.toNat_natCast]
   by_cases e:i0=b
   ·subst e
    rw[G.at0_set_same _ _ (by omega),hj,G.at0_get _ _ hjl]
    exact hmj
   ·rw[G.at0_set_other _ _ _ e]
    have:=hpi b (by omega)
    have e2:G.at0 out (b:Int)=G.at0 d (b:Int):=by rw[hout];exact G.at0_set_other _ _ _ e _
    rw[e2] at this
    exact this
  have hn:=number d _ hok hnum
  have hr:=ih (ac++[G.num d (G.tkf (i0:Int) marks (G.alls out)[q])]) (by simp;omega)
  rw[List.append_assoc] at hr
  rw[List.drop_eq_getElem_cons hq,List.map_cons]
  have hrd:rd (G.alls out)[q] (i0:Int)=(j:Int):=hj
  refine Es (f:=fun k=>(fbc.f k d (G.tkf (i0:Int) marks (G.alls out)[q])).bind fun t591=>(if ac.length<17592186044416 then(fbb.l0 k d (i0:Int) marks out (G.alls out) (ac++[t591]) ((G.alls out).length:Int) ((q+1:Nat):Int))else(none))) (fun k=>?_) (Eb hn ?_)
  ·rw[fbb.l0,ip (by omega),Option.bind_some,ip (by omega),ip (by omega),rdl _ q hq,ip (by simp;omega),Option.bind_some,List.nil_append,ip (by omega),ip (by omega),hrd,ip (by omega),ip (by omega),nx q _ hq (by omega),Int.toNat_natCast]
   rw[show (G.alls out)[q].set i0 (rd marks (j:Int))=G.tkf (i0:Int) marks (G.alls out)[q] by unfold G.tkf;rw[Int.toNat_natCast,hj];rfl]
  ·exact Ec (fun k=>by rw[ip (by omega)]) hr
theorem ref_take (d:List Int)(hok:G.chk d=0)(i0:Nat)(hi0:i0<d.length)(marks:List Int)(hm:∀ m∈marks,0≤m∧m<G.at0 d (i0:Int)):Ev (fun k=>fbb.f k d (i0:Int) marks) (G.rtk d (i0:Int) marks):=by
 refine Ec (fun k=>by rw[fbb.f]) (Eb (ref_with d (i0:Int) (marks.length:Int)) ?_)
 unfold G.rtk
 by_cases h:(G.withd d (i0:Int) (marks.length:Int)).2=0
 ·simp only[ip h]
  have hw:G.chk (d.set i0 (marks.length:Int))=0∧(G.withd d (i0:Int) (marks.length:Int)).1=d.set i0 (marks.length:Int):=by
   unfold G.withd at h ⊢
   rw[ip hok,iN (by omega),Int.toNat_natCast] at h
   rw[ip hok,iN (by omega),Int.toNat_natCast]
   by_cases h2:G.chk (d.set i0 (marks.length:Int))=0
   ·rw[ip h2];exact⟨h2,rfl⟩
   ·rw[iN h2] at h;exact absurd h h2
  rw[hw.2]
  refine Eb (ref_all _) ?_
  have:=take_l d hok i0 hi0 marks hm _ rfl hw.1 0 (by omega) [] (by simp)
  rw[List.drop_zero,List.nil_append] at this
  exact this
 ·simp only[iN h]
  exact En _
theorem flip_l (d:List Int)(hok:G.chk d=0)(i0:Nat)(hi0:i0<d.length)(n:Nat)(hn:G.at0 d (i0:Int)=(n:Int))(hn64:n≤64)(r:List Int×List Int×Int)(h:Ev (fun k=>fbb.f k d (i0:Int) ((List.range n).map fun i:Nat=>G.at0 d (i0:Int)-1-(i:Int))) r):∀ i,i≤n →
  Ev (fun k=>faw.l0 k d (i0:Int) ((List.range i).map fun i:Nat=>G.at0 d (i0:Int)-1-(i:Int)) (G.at0 d (i0:Int)) (i:Int)) r:=by
 apply down
 ·refine Es (fun k=>by rw[faw.l0,iN (by omega)]) (Eb h (En _))
 ·intro i hi ih
  rw[List.range_succ,List.map_append,List.map_singleton] at ih
  refine Es (fun k=>?_) ih
  rw[faw.l0,ip (by omega),ip (by omega),ip (by omega),ip (by simp;omega),nx i n hi (by omega),show rd d (i0:Int)=G.at0 d (i0:Int) from rfl,w64 (x:=G.at0 d (i0:Int)-1) (by omega) (by omega),w64 (by omega) (by omega)]
theorem ref_flip (d:List Int)(hok:G.chk d=0) (a:Int):Ev (fun k=>faw.f k d a) (G.rfl_ d a):=by
 unfold G.rfl_
 by_cases h0:a<0
 ·rw[ip (.inl h0)]
  refine Ec (fun k=>by rw[faw.f,ip h0]) (Es (fun k=>?_) (En _))
  rw[faw.j0,ip rfl]
 ·refine Ec (fun k=>by rw[faw.f,iN h0]) ?_
  by_cases h1:a ≥ (d.length:Int)
  ·rw[ip (.inr h1),decide_eq_true h1]
   refine Es (fun k=>?_) (En _)
   rw[faw.j0,ip rfl]
  ·rw[iN (by omega),decide_eq_false h1]
   obtain⟨i0,rfl⟩:=Int.eq_ofNat_of_zero_le (show 0≤a by omega)
   have hx:=(G.chk_ok hok).2.1 _ (List.getElem_mem (show i0<d.length by omega))
   have hx2:=G.ok_le hok _ (List.getElem_mem (show i0<d.length by omega))
   rw[← G.at0_get d i0 (by omega)] at hx hx2
   obtain⟨n,hn⟩:=Int.eq_ofNat_of_zero_le (show 0≤G.at0 d (i0:Int) by omega)
   have ht:=ref_take d hok i0 (by omega) ((List.range n).map fun i:Nat=>G.at0 d (i0:Int)-1-(i:Int)) (fun m hm=>by
    simp only[List.mem_map,List.mem_range] at hm
    obtain⟨i,hi,rfl⟩:=hm
    omega)
   have:=flip_l d hok i0 (by omega) n hn (by omega) _ ht 0 (by omega)
   rw[hn,Int.toNat_natCast,← hn]
   refine Es (fun k=>?_) this
   rw[faw.j0,iN (by simp),ip (by omega),ip (by omega)];rfl
/-- The marks up to n, all in range. -/
def MOk (x start step:Int)(n:Nat):Prop:=∀ i:Nat,i<n→0≤start+(i:Int)*step∧start+(i:Int)*step<x
theorem mrk_some {x start step:Int} {n:Nat} (h:MOk x start step n):G.mrk x start step n=some ((List.range n).map fun i:Nat=>start+(i:Int)*step):=by
 unfold G.mrk
 rw[ip]
 rw[List.all_eq_true]
 intro i hi
 rw[List.mem_range] at hi
 have:=h i hi
 simp[this]
theorem mrk_none {x start step:Int} {n:Nat} (h:¬ MOk x start step n):G.mrk x start step n=none:=by
 unfold G.mrk
 rw[iN]
 intro hh
 rw[List.all_eq_true] at hh
 refine h (fun i hi=>?_)
 have:=hh i (by rw[List.mem_range];exact hi)
 simpa using this
theorem slice_l (d:List Int)(i0:Nat)(hi0:i0<d.length)(hx2:G.at0 d (i0:Int)≤64) (start step:Int)(hs0:0≤start)(hs1:start<G.at0 d (i0:Int))(n:Nat)(hn64:n≤64)(hst:1<n→-64≤step∧step≤64)(r:List Int×List Int×Int)
  (h:MOk (G.at0 d (i0:Int)) start step n→Ev (fun k=>fbb.f k d (i0:Int) ((List.range n).map fun i:Nat=>start+(i:Int)*step)) r) (h2:¬ MOk (G.at0 d (i0:Int)) start step n→r=([],[],11)):∀ i,i≤n→MOk (G.at0 d (i0:Int)) start step i →
  Ev (fun k=>fba.l0 k d (i0:Int) start step ((List.range i).map fun i:Nat=>start+(i:Int)*step) (n:Int) (i:Int)) r:=by
 apply down
 ·intro hm
  refine Es (fun k=>by rw[fba.l0,iN (by omega)]) (Eb (h hm) (En _))
 ·intro i hi ih hm
  by_cases hz:i=0
  ·subst hz
   have hm1:MOk (G.at0 d (i0:Int)) start step (0+1):=fun j hj=>by
    obtain rfl:j=0:=by omega
    simp;omega
   refine Es (fun k=>?_) (ih hm1)
   rw[fba.l0,ip (by omega),iN (by omega),iN (by omega),ip (by omega),ip (by omega),iN (by show ¬ start ≥ G.at0 d (i0:Int);omega),ip (by simp),nx 0 n hi (by omega)]
   simp
  ·obtain⟨b1,b2⟩:=hst (by omega)
   have e1:(i:Int)*step≤(i:Int)*64:=Int.mul_le_mul_of_nonneg_left b2 (by omega)
   have e2:(i:Int)*(-64)≤(i:Int)*step:=Int.mul_le_mul_of_nonneg_left b1 (by omega)
   have hw:wrap64 (start+wrap64 ((i:Int)*step))=start+(i:Int)*step:=by rw[w64 (x:=(i:Int)*step) (by omega) (by omega),w64 (by omega) (by omega)]
   by_cases c1:start+(i:Int)*step<0
   ·rw[h2 (fun hh=>by have:=hh i hi;omega)]
    refine Es (fun k=>?_) (En _)
    rw[fba.l0,ip (by omega),ip (by omega),hw,ip c1]
   ·by_cases c2:start+(i:Int)*step ≥ G.at0 d (i0:Int)
    ·rw[h2 (fun hh=>by have:=hh i hi;omega)]
     refine Es (fun k=>?_) (En _)
     rw[fba.l0,ip (by omega),ip (by omega),hw,iN c1,ip (by omega),ip (by omega),rd_at0,ip c2]
    ·have hm1:MOk (G.at0 d (i0:Int)) start step (i+1):=fun j hj=>by
      rcases Nat.lt_or_ge j i with hlt|hge
      ·exact hm j hlt
      ·obtain rfl:j=i:=by omega
       omega
     have:=ih hm1
     rw[List.range_succ,List.map_append,List.map_singleton] at this
     refine Es (fun k=>?_) this
     rw[fba.l0,ip (by omega),ip (by omega),hw,iN c1,ip (by omega),ip (by omega),rd_at0,iN c2,ip (by simp;omega),nx i n hi (by omega)]
theorem ref_slice (d:List Int)(hok:G.chk d=0) (a start count step:Int):Ev (fun k=>fba.f k d a start count step) (G.rsl d a start count step):=by
 unfold G.rsl
 by_cases h0:a<0
 ·rw[ip (.inl h0)]
  refine Ec (fun k=>by rw[fba.f,ip h0]) (Es (fun k=>?_) (En _))
  rw[fba.j0,ip rfl]
 ·refine Ec (fun k=>by rw[fba.f,iN h0]) ?_
  by_cases h1:a ≥ (d.length:Int)
  ·rw[ip (.inr h1),decide_eq_true h1]
   refine Es (fun k=>?_) (En _)
   rw[fba.j0,ip rfl]
  ·rw[iN (by omega),decide_eq_false h1]
   obtain⟨i0,rfl⟩:=Int.eq_ofNat_of_zero_le (show 0≤a by omega)
   have hx:=(G.chk_ok hok).2.1 _ (List.getElem_mem (show i0<d.length by omega))
   have hx2:=G.ok_le hok _ (List.getElem_mem (show i0<d.length by omega))
   rw[← G.at0_get d i0 (by omega)] at hx hx2
   have stop:Ev (fun k=>fba.j1 k d (i0:Int) start count step true) ([],[],11):=by
    refine Es (fun k=>?_) (En _)
    rw[fba.j1,ip rfl]
   have hrd:rd d (i0:Int)=G.at0 d (i0:Int):=rfl
   by_cases c1:count<1
   ·rw[ip (.inl c1)]
    refine Es (fun k=>?_) stop
    rw[fba.j0,iN (by simp),ip c1]
   ·by_cases c2:count > G.at0 d (i0:Int)
    ·rw[ip (.inr (.inl c2))]
     refine Es (fun k=>?_) stop
     rw[fba.j0,iN (by simp),iN c1,ip (by omega),ip (by omega),hrd,ip c2]
    ·by_cases c3:start<0
     ·rw[ip (.inr (.inr (.inl c3)))]
      refine Es (fun k=>?_) stop
      rw[fba.j0,iN (by simp),iN c1,ip (by omega),ip (by omega),hrd,iN c2,ip c3]
     ·by_cases c4:start ≥ G.at0 d (i0:Int)
      ·rw[ip (.inr (.inr (.inr (.inl c4))))]
       refine Es (fun k=>?_) stop
       rw[fba.j0,iN (by simp),iN c1,ip (by omega),ip (by omega),hrd,iN c2,iN c3,ip c4]
      ·by_cases c5:1<count∧(step=0∨64<step∨step < -64)
       ·rw[ip (.inr (.inr (.inr (.inr c5))))]
        refine Es (fun k=>?_) stop
        rw[fba.j0,iN (by simp),iN c1,ip (by omega),ip (by omega),hrd,iN c2,iN c3,iN c4,ip c5.1]
        by_cases s1:step=0
        ·rw[ip s1]
        ·by_cases s2:step > 64
         ·rw[iN s1,ip s2]
         ·rw[iN s1,iN s2,decide_eq_true (by omega)]
       ·rw[iN (by omega)]
        obtain⟨n,hn⟩:=Int.eq_ofNat_of_zero_le (show 0≤count by omega)
        subst hn
        rw[Int.toNat_natCast]
        have key:=slice_l d i0 (by omega) hx2 start step (by omega) (by omega) n (by omega) (fun hn1=>by omega) (match G.mrk (G.at0 d (i0:Int)) start step n with|some m=>G.rtk d (i0:Int) m|none=>([],[],11))
         (fun hm=>by
          rw[mrk_some hm]
          refine ref_take d hok i0 (by omega) _ (fun m hmm=>?_)
          simp only[List.mem_map,List.mem_range] at hmm
          obtain⟨i,hi,rfl⟩:=hmm
          exact hm i hi) (fun hm=>by rw[mrk_none hm]) 0 (by omega) (fun j hj=>by omega)
        refine Es (f:=fun k=>fba.j1 k d (i0:Int) start (n:Int) step false) (fun k=>?_) (Es (fun k=>?_) key)
        ·rw[fba.j0,iN (by simp),iN c1,ip (by omega),ip (by omega),hrd,iN c2,iN c3,iN c4]
         by_cases s0:(n:Int) > 1
         ·rw[ip s0,iN (by omega),iN (by omega),decide_eq_false (by omega)]
         ·rw[iN s0]
        ·rw[fba.j1,iN (by simp)];rfl
theorem permute_1 (d l:List Int)(hp:G.Pm l)(hl:l.length=d.length)(h6:d.length≤6)(out:List Int)(L:List (List Int))(ac:List Int)(q:Nat)(hq:q<L.length)(hqL:L[q].length=l.length)(R:List Int×List Int×Int)
  (h:Ev (fun k=>(fbc.f k d (G.prm L[q] (G.bk l))).bind fun t561=>(if ac.length<17592186044416 then(fax.l0 k d l out L (ac++[t561]) (L.length:Int) (wrap64 ((q:Int)+1)))else(none))) R):∀ j,j≤l.length→∀ at_:List Int,at_.length=d.length→(∀ m:Nat,m<j→G.at0 at_ (G.at0 l (m:Int))=G.at0 L[q] (m:Int)) →
  Ev (fun k=>fax.l1 k d l out L ac (q:Int) at_ (L.length:Int) (q:Int) (l.length:Int) (j:Int)) R:=by
 apply down
 ·intro at_ hat hm
  have e:at_=G.prm L[q] (G.bk l):=by
   apply G.at0_ext (by rw[G.prm_length,G.bk_length];omega)
   intro j hj
   obtain⟨m,hml,e1,e2⟩:=G.pm_back hp j (by omega)
   rw[G.at0_prm _ _ _ (by rw[G.bk_length];omega),e2,← e1]
   exact hm m hml
  refine Es (fun k=>?_) h
  rw[fax.l1,iN (by omega),e]
 ·intro j hj ih at_ hat hm
  have hr:=hp.range _ (List.getElem_mem hj)
  rw[← rdg l j hj] at hr
  obtain⟨a,ha⟩:=Int.eq_ofNat_of_zero_le hr.1
  have:=ih (at_.set a (rd L[q] (j:Int))) (by simp[hat]) (fun m hm2=>by
   by_cases e:m=j
   ·subst e
    rw[show G.at0 l (m:Int)=(a:Int) from ha,G.at0_set_same _ _ (by omega)];rfl
   ·have hml:m<j:=by omega
    have hmr:=hp.range _ (List.getElem_mem (show m<l.length by omega))
    obtain⟨b,hb⟩:=Int.eq_ofNat_of_zero_le hmr.1
    have hb':G.at0 l (m:Int)=(b:Int):=by rw[G.at0_get l m (by omega)];exact hb
    have hne:a≠b:=fun e2=>by
     have hnd:=(List.nodup_iff_pairwise_ne.1 hp.nodup)
     have:=List.pairwise_iff_getElem.1 hnd m j (by omega) hj hml
     apply this
     rw[hb,← rdg l j hj,ha,e2]
    rw[hb',G.at0_set_other _ _ _ hne,← hb']
    exact hm m hml)
  refine Es (fun k=>?_) this
  rw[fax.l1,ip (by omega),ip (by omega),ip (by omega),ip (by omega),ip (by omega),rdl L q hq,ip (by omega),ip (by omega),ip (by omega),ha,Int.toNat_natCast,nx j _ hj (by omega)]
theorem permute_0 (d l:List Int)(hok:G.chk d=0)(hp:G.Pm l)(hl:l.length=d.length)(out:List Int)(hout:out=G.prm d l)(ho:G.chk out=0):∀ q,q≤(G.alls out).length→∀ ac:List Int,ac.length≤q →
  Ev (fun k=>fax.l0 k d l out (G.alls out) ac ((G.alls out).length:Int) (q:Int)) (out,ac++((G.alls out).drop q).map (fun p=>G.num d (G.prm p (G.bk l))),0):=by
 have hlen:=G.alls_length out
 have h64:=(G.cnt_ok ho).2.2
 have h6:=(G.chk_ok hok).1
 apply down
 ·intro ac _
  rw[List.drop_length]
  simp only[List.map_nil,List.append_nil]
  refine Es (fun k=>?_) (En _)
  rw[fax.l0,iN (by omega)]
 ·intro q hq ih ac hac
  have hpl:=(G.mem_alls ho).1 (List.getElem_mem hq)
  have hpl2:=hpl
  have hol:out.length=l.length:=by rw[hout,G.prm_length]
  have hin:G.inb d (G.prm (G.alls out)[q] (G.bk l))=true:=by
   have hx:G.inb (G.prm d l) (G.alls out)[q]=true:=by rw[← hout];exact hpl2
   exact G.inb_prm hp d _ hl.symm hx
  have hn:=number d _ hok hin
  have hr:=ih (ac++[G.num d (G.prm (G.alls out)[q] (G.bk l))]) (by simp;omega)
  rw[List.append_assoc] at hr
  rw[List.drop_eq_getElem_cons hq,List.map_cons]
  have:=permute_1 d l hp hl h6 out (G.alls out) ac q hq (by rw[G.inb_length hpl];exact hol) _ (Eb hn (Ec (fun k=>by rw[ip (by omega),nx q _ hq (by omega)]) hr)) 0 (by omega) (List.replicate d.length 0) (by simp) (fun m hm=>by omega)
  refine Es (fun k=>?_) this
  rw[fax.l0,ip (by omega),ip (by omega),ip (by omega),Int.toNat_natCast];rfl
theorem ref_permute (d l:List Int)(hn:l.length≤1000000000):Ev (fun k=>fax.f k d l) (G.rpm d l):=by
 refine Ec (fun k=>by rw[fax.f]) (Eb (ref_perm d l hn) ?_)
 unfold G.rpm
 by_cases h:(G.perm d l).2=0
 ·simp only[ip h]
  obtain⟨p1,p2,p3,p4,p5⟩:=G.perm_ok h
  rw[p5]
  refine Eb (ref_all _) ?_
  have:=permute_0 d l p1 p2 p3 _ rfl p4 0 (by omega) [] (by simp)
  rw[List.drop_zero,List.nil_append] at this
  exact this
 ·simp only[iN h]
  exact En _
theorem ref_expand (d to_:List Int)(hn:to_.length≤1000000000):Ev (fun k=>fav.f k d to_) (G.rex d to_):=by
 refine Ec (fun k=>by rw[fav.f]) (Eb (ref_check to_) ?_)
 unfold G.rex
 by_cases h:G.chk to_=0
 ·simp only[ip h]
  refine Eb (ref_fits d to_) ?_
  by_cases h2:G.fts d to_=true
  ·rw[h2]
   simp only[if_true,Option.bind_some,List.nil_append]
   refine Ec (fun k=>by rw[ip (by simp;omega)]) (Eb (sources d to_) (En _))
  ·rw[Bool.eq_false_iff.2 h2]
   exact En _
 ·simp only[iN h]
  exact En _
theorem view_reshape (o:Int)(d s to_:List Int):Ev (fun k=>fcw.f k o d s to_) (G.vrs o d s to_):=by
 refine Ec (fun k=>by rw[fcw.f]) (Eb (view_rgt64 o d s) ?_)
 unfold G.vrs
 by_cases h:G.rgt o d s 64=true
 ·rw[h]
  simp only[if_true,shape_check,Option.bind_some]
  by_cases h1:G.chk to_=0
  ·simp only[ip h1]
   refine Eb (shape_count to_) (Eb (shape_count d) ?_)
   by_cases h2:G.cnt to_=G.cnt d
   ·simp only[ip h2]
    refine Eb (view_row o d s) ?_
    by_cases h3:G.row (G.cls o d s 64)=true
    ·rw[h3]
     simp only[if_true]
     refine Ec (fun k=>by rw[fcn.f,ip (by have:=(G.chk_ok h1).1;omega),Option.bind_some]) ?_
     refine Eb (shape_steps to_) ?_
     rw[show G.steps to_=G.stp to_ by unfold G.steps;rw[ip h1]]
     exact En _
    ·rw[Bool.eq_false_iff.2 h3]
     exact En _
   ·simp only[iN h2];exact En _
  ·simp only[iN h1];exact En _
 ·rw[Bool.eq_false_iff.2 h];exact En _
theorem slice_3 (o:Int)(d s:List Int)(i0:Nat) (start count:Int)(hd:d.length≤100)(hi0:i0<d.length)(hs:s.length=d.length)(s1:List Int)(hs1:s1.length=d.length)(hw:0<start→wrap64 (o+wrap64 (start*G.at0 s (i0:Int)))=o+start*G.at0 s (i0:Int))(k:Nat) :
  fcz.j3 (k+1) (i0:Int) start count o d s o d s1=some (if 0<start then o+start*G.at0 s (i0:Int)else o,d.set i0 count,if count=1 then s1.set i0 0 else s1,0):=by
 rw[fcz.j3]
 by_cases h:0<start
 ·rw[ip h,ip h,ip (by omega),ip (by omega),ip (by omega),Option.bind_some,Int.toNat_natCast,rd_at0,hw h]
  by_cases h1:count=1
  ·rw[ip h1,ip h1,ip (by omega)]
  ·rw[iN h1,iN h1]
 ·rw[iN (by omega),iN h,ip (by omega),ip (by omega),Option.bind_some,Int.toNat_natCast]
  by_cases h1:count=1
  ·rw[ip h1,ip h1,ip (by omega)]
  ·rw[iN h1,iN h1]
theorem view_slice (o:Int)(d s:List Int)(a start count step:Int):Ev (fun k=>fcz.f k o d s a start count step) (G.vsl o d s a start count step):=by
 refine Ec (fun k=>by rw[fcz.f]) (Eb (view_rgt64 o d s) ?_)
 unfold G.vsl
 by_cases h:G.rgt o d s 64=true
 ·rw[h]
  simp only[if_true]
  obtain⟨v1,v2,v3,v4,v5,v6⟩:=(G.rgt_ok h).1
  have h6:=(G.chk_ok v1).1
  by_cases h0:a<0
  ·rw[ip (.inl h0)]
   simp only[ip h0]
   refine Es (fun k=>?_) (En _)
   rw[fcz.j0,ip rfl]
  ·simp only[iN h0]
   by_cases h1:a ≥ (d.length:Int)
   ·rw[decide_eq_true h1,ip (.inr h1)]
    refine Es (fun k=>?_) (En _)
    rw[fcz.j0,ip rfl]
   ·rw[decide_eq_false h1,iN (show ¬ (a<0∨(d.length:Int)≤a) by omega)]
    obtain⟨i0,rfl⟩:=Int.eq_ofNat_of_zero_le (show 0≤a by omega)
    obtain⟨b1,b2,b3⟩:=steps_bound h i0 (by omega)
    rw[Int.toNat_natCast]
    have hrd:rd d (i0:Int)=G.at0 d (i0:Int):=rfl
    have stop:Ev (fun k=>fcz.j1 k (i0:Int) start count step (G.at0 d (i0:Int)) true o d s) (0,[],[],11):=by
     refine Es (fun k=>?_) (En _)
     rw[fcz.j1,ip rfl]
    by_cases c1:start<0
    ·rw[ip (.inl c1)]
     refine Es (fun k=>?_) stop
     rw[fcz.j0,iN (by simp),ip (by omega),ip (by omega),ip c1,hrd]
    ·by_cases c2:start ≥ G.at0 d (i0:Int)
     ·rw[ip (.inr (.inl c2))]
      refine Es (fun k=>?_) stop
      rw[fcz.j0,iN (by simp),ip (by omega),ip (by omega),iN c1,hrd,ip c2]
     ·by_cases c3:count<1
      ·rw[ip (.inr (.inr (.inl c3)))]
       refine Es (fun k=>?_) stop
       rw[fcz.j0,iN (by simp),ip (by omega),ip (by omega),iN c1,hrd,iN c2,ip c3]
      ·by_cases c4:count > G.at0 d (i0:Int)
       ·rw[ip (.inr (.inr (.inr (.inl c4))))]
        refine Es (fun k=>?_) stop
        rw[fcz.j0,iN (by simp),ip (by omega),ip (by omega),iN c1,hrd,iN c2,iN c3,decide_eq_true c4]
       ·have hw:0<start→wrap64 (o+wrap64 (start*G.at0 s (i0:Int)))=o+start*G.at0 s (i0:Int):=fun hp=>by
         obtain⟨e1,e2⟩:=b3 (by omega)
         obtain⟨m1,m2⟩:=mul_bound (a:=start) (t:=G.at0 s (i0:Int)) (by omega) (by omega) (.inr ⟨e1,e2⟩)
         rw[w64 (x:=start*G.at0 s (i0:Int)) (by omega) (by omega),w64 (by omega) (by omega)]
        refine Es (f:=fun k=>fcz.j1 k (i0:Int) start count step (G.at0 d (i0:Int)) false o d s) (fun k=>?_) ?_
        ·rw[fcz.j0,iN (by simp),ip (by omega),ip (by omega),iN c1,hrd,iN c2,iN c3,decide_eq_false c4]
        ·by_cases c5:count > 1
         ·obtain⟨e1,e2⟩:=b3 (by omega)
          have stop2:Ev (fun k=>fcz.j2 k (i0:Int) start count step (G.at0 d (i0:Int)) true o d s o d s) (0,[],[],11):=by
           refine Es (fun k=>?_) (En _)
           rw[fcz.j2,ip rfl]
          have hnw:wrap64 (-(G.at0 d (i0:Int)))=-(G.at0 d (i0:Int)):=w64 (by omega) (by omega)
          by_cases c6:step=0
          ·rw[ip (by omega)]
           refine Es (fun k=>?_) stop2
           rw[fcz.j1,iN (by simp),copied o d s (by omega) (by omega),Option.bind_some,ip c5,ip c6]
          ·by_cases c7:step ≥ G.at0 d (i0:Int)
           ·rw[ip (by omega)]
            refine Es (fun k=>?_) stop2
            rw[fcz.j1,iN (by simp),copied o d s (by omega) (by omega),Option.bind_some,ip c5,iN c6,ip c7]
           ·by_cases c8:step≤-(G.at0 d (i0:Int))
            ·rw[ip (by omega)]
             refine Es (fun k=>?_) stop2
             rw[fcz.j1,iN (by simp),copied o d s (by omega) (by omega),Option.bind_some,ip c5,iN c6,iN c7,hnw,decide_eq_true c8]
            ·obtain⟨m1,m2⟩:=mul_bound (a:=count-1) (t:=step) (by omega) (by omega) (.inr ⟨by omega,by omega⟩)
             have hlw:wrap64 (start+wrap64 (wrap64 (count-1)*step))=start+(count-1)*step:=by
              rw[w64 (x:=count-1) (by omega) (by omega),w64 (x:=(count-1)*step) (by omega) (by omega),w64 (by omega) (by omega)]
             refine Es (f:=fun k=>fcz.j2 k (i0:Int) start count step (G.at0 d (i0:Int)) false o d s o d s) (fun k=>?_) ?_
             ·rw[fcz.j1,iN (by simp),copied o d s (by omega) (by omega),Option.bind_some,ip c5,iN c6,iN c7,hnw,decide_eq_false c8]
             ·by_cases c9:start+(count-1)*step<0
              ·rw[ip (by omega)]
               refine Es (fun k=>?_) (En _)
               rw[fcz.j2,iN (by simp),hlw,ip c9]
              ·by_cases c10:start+(count-1)*step ≥ G.at0 d (i0:Int)
               ·rw[ip (by omega)]
                refine Es (fun k=>?_) (En _)
                rw[fcz.j2,iN (by simp),hlw,iN c9,ip c10]
               ·rw[iN (by omega),iN (show ¬ count=1 by omega)]
                have e3:-4096≤G.at0 s (i0:Int)*step∧G.at0 s (i0:Int)*step≤4096:=by
                 rcases Int.lt_or_le (G.at0 s (i0:Int)) 0 with hneg|hpos
                 ·obtain⟨q1,q2⟩:=mul_bound (a:=-(G.at0 s (i0:Int))) (t:=step) (by omega) (by omega) (.inr ⟨by omega,by omega⟩)
                  rw[Int.neg_mul] at q1 q2;omega
                 ·obtain⟨q1,q2⟩:=mul_bound (a:=G.at0 s (i0:Int)) (t:=step) (by omega) (by omega) (.inr ⟨by omega,by omega⟩)
                  omega
                refine Es (f:=fun k=>fcz.j3 k (i0:Int) start count o d s o d (s.set i0 (G.at0 s (i0:Int)*step))) (fun k=>?_) (Es (f:=fun _=>some _) (fun k=>?_) (En _))
                ·rw[fcz.j2,iN (by simp),hlw,iN c9,iN c10,ip (by omega),ip (by omega),ip (by omega),Int.toNat_natCast,rd_at0,w64 (by omega) (by omega)]
                ·rw[slice_3 o d s i0 start count (by omega) (by omega) v2 _ (by simp;omega) hw k,iN (show ¬ count=1 by omega)]
         ·have hc1:count=1:=by omega
          rw[iN (by omega),ip hc1]
          refine Es (f:=fun k=>fcz.j3 k (i0:Int) start count o d s o d s) (fun k=>?_) (Es (f:=fun _=>some _) (fun k=>?_) (En _))
          ·rw[fcz.j1,iN (by simp),copied o d s (by omega) (by omega),Option.bind_some,iN c5]
          ·rw[slice_3 o d s i0 start count (by omega) (by omega) v2 s v2 hw k,ip hc1]
 ·rw[Bool.eq_false_iff.2 h];exact En _
theorem expand_l (o:Int)(d s to_:List Int)(hl:s.length=d.length)(hd:d.length≤6)(ht:to_.length≤6)(hdt:d.length≤to_.length):∀ i,i≤d.length →
  Ev (fun k=>fct.l0 k ((to_.length:Int)-(d.length:Int)) d (d.length:Int) (i:Int) o d s o to_ (G.est to_.length d s i)) (o,to_,List.replicate (to_.length-d.length) 0++G.exs d s,0):=by
 have he:=G.exs_length d s hl
 apply down
 ·refine Es (fun k=>?_) (En _)
  rw[fct.l0,iN (by omega)]
  unfold G.est
  rw[Nat.sub_self,List.take_of_length_le (by omega)]
  simp
 ·intro i hi ih
  have hel:=G.est_length to_.length d s hl hdt i (by omega)
  by_cases h1:1<G.at0 d (i:Int)
  ·rw[G.est_succ _ _ _ hl i hi,G.exs_at d s hl i hi,ip h1] at ih
   refine Es (fun k=>?_) ih
   have hw:wrap64 ((to_.length:Int)-(d.length:Int)+(i:Int))=((to_.length-d.length+i:Nat):Int):=by rw[w64 (by omega) (by omega)];omega
   rw[fct.l0,ip (by omega),ip (by omega),ip (by omega),rd_at0,rd_at0,ip h1,ip (by omega),hw,ip (by omega),ip (by omega),Int.toNat_natCast,nx i _ hi (by omega)]
  ·rw[G.est_keep _ _ _ hl i hi h1] at ih
   refine Es (fun k=>?_) ih
   rw[fct.l0,ip (by omega),ip (by omega),ip (by omega),rd_at0,iN h1,nx i _ hi (by omega)]
theorem view_expand (o:Int)(d s to_:List Int):Ev (fun k=>fct.f k o d s to_) (G.vex o d s to_):=by
 refine Ec (fun k=>by rw[fct.f]) (Eb (view_rgt64 o d s) ?_)
 unfold G.vex
 by_cases h:G.rgt o d s 64=true
 ·rw[h]
  simp only[if_true,shape_check,Option.bind_some]
  by_cases h1:G.chk to_=0
  ·simp only[ip h1]
   refine Eb (fits d to_) ?_
   by_cases h2:G.fts d to_=true
   ·rw[h2]
    simp only[if_true]
    obtain⟨f1,f2,f3,f4⟩:=(G.fts_iff d to_).1 h2
    have ht:=(G.chk_ok h1).1
    have hd:=(G.chk_ok f1).1
    have:=expand_l o d s to_ (G.rgt_ok h).1.2.1 hd ht f3 0 (by omega)
    have e0:G.est to_.length d s 0=List.replicate to_.length 0:=by
     unfold G.est
     rw[List.take_zero,List.nil_append,List.replicate_append_replicate]
     congr 1;omega
    rw[e0] at this
    refine Ec (fun k=>?_) this
    rw[fcn.f,ip (by omega),Option.bind_some,ip (by omega),ip (by omega),Int.toNat_natCast,w64 (by omega) (by omega)];rfl
   ·rw[Bool.eq_false_iff.2 h2];exact En _
  ·simp only[iN h1];exact En _
 ·rw[Bool.eq_false_iff.2 h];exact En _
theorem move_view (o:Int)(d s:List Int)(op n a b c p q r t:Int)(kp:Bool)(l:List Int)(hl:l.length≤1000)(h33:33≤op)(h37:op≤37):Ev (fun k=>fbv.f k op n a b c p q r t kp l o d s) (G.sen o d s op n a b c l):=by
 unfold G.sen
 by_cases h1:op=33
 ·rw[ip h1]
  exact Ec (fun k=>by rw[fbv.f,ip h1]) (Eb (view_reshape o d s l) (En _))
 ·by_cases h2:op=34
  ·rw[iN h1,ip h2]
   exact Ec (fun k=>by rw[fbv.f,iN h1,ip h2]) (Eb (view_permute o d s l (by omega)) (En _))
  ·by_cases h3:op=35
   ·rw[iN h1,iN h2,ip h3]
    exact Ec (fun k=>by rw[fbv.f,iN h1,iN h2,ip h3]) (Eb (view_slice o d s n a b c) (En _))
   ·by_cases h4:op=36
    ·rw[iN h1,iN h2,iN h3,ip h4]
     exact Ec (fun k=>by rw[fbv.f,iN h1,iN h2,iN h3,ip h4]) (Eb (view_expand o d s l) (En _))
    ·rw[iN h1,iN h2,iN h3,iN h4]
     exact Ec (fun k=>by rw[fbv.f,iN h1,iN h2,iN h3,iN h4,ip (by omega)]) (Eb (view_flip o d s n) (En _))
theorem joined_w (x y:List Int)(n:Int)(hx:G.chk x=0)(hy:G.chk y=0)(h0:0≤n)(h1:n<(x.length:Int))(hl:x.length=y.length):wrap64 (rd x n+rd y n)=G.at0 x n+G.at0 y n:=by
 obtain⟨m,rfl⟩:=Int.eq_ofNat_of_zero_le h0
 have e1:=(G.chk_ok hx).2.1 x[m] (List.getElem_mem (by omega))
 have e2:=(G.chk_ok hy).2.1 y[m] (List.getElem_mem (by omega))
 have e3:=G.ok_le hx x[m] (List.getElem_mem (by omega))
 have e4:=G.ok_le hy y[m] (List.getElem_mem (by omega))
 rw[← at0_rd,← at0_rd,G.at0_g29 x m (by omega),G.at0_g29 y m (by omega),w64 (by omega) (by omega)]
theorem joined_l (x y:List Int)(n:Int)(hx:G.chk x=0)(hy:G.chk y=0)(h0:0≤n)(h1:n<(x.length:Int))(hl:x.length=y.length):∀ i,i≤x.length →
  Ev (fun k=>fbw.l0 k x y n x (x.length:Int) (i:Int)) (if G.jok n x y i=true then G.withd x n (G.at0 x n+G.at0 y n)else([],8)):=by
 have h6:=(G.chk_ok hx).1
 apply down
 ·rw[ip (G.jok_end n x y)]
  refine Es (fun k=>by rw[fbw.l0,iN (by omega),ip h0,ip h1,ip (by omega),joined_w x y n hx hy h0 h1 hl]) (Eb (withp x n _) ?_)
  exact En _
 ·intro i hi ih
  have e:=G.jok_step n x y i hi
  by_cases g0:(i:Int)=n
  ·rw[decide_eq_true g0,Bool.true_or,Bool.true_and] at e
   rw[e]
   refine Es (fun k=>?_) ih
   rw[fbw.l0,ip (by omega),ip (by omega),ip (by omega),ip g0,nx i _ hi (by omega)]
  ·rw[decide_eq_false g0,Bool.false_or] at e
   by_cases g1:G.at0 x (i:Int)=G.at0 y (i:Int)
   ·rw[decide_eq_true g1,Bool.true_and] at e
    rw[e]
    refine Es (fun k=>?_) ih
    rw[fbw.l0,ip (by omega),ip (by omega),ip (by omega),iN g0,ip (by omega),← at0_rd,← at0_rd,ip g1,nx i _ hi (by omega)]
   ·rw[decide_eq_false g1,Bool.false_and] at e
    rw[e,iN (by simp)]
    refine Es (fun k=>?_) (En _)
    rw[fbw.l0,ip (by omega),ip (by omega),ip (by omega),iN g0,ip (by omega),← at0_rd,← at0_rd,iN g1]
theorem mjoined (x y:List Int)(n:Int)(hx:G.chk x=0)(hy:G.chk y=0):Ev (fun k=>fbw.f k x y n) (G.joind x y n):=by
 unfold G.joind
 by_cases h0:n<0
 ·rw[ip (.inl h0)]
  refine Ec (fun k=>by rw[fbw.f,ip h0]) (Es (fun k=>?_) (En _))
  rw[fbw.j0,ip rfl]
 ·by_cases h1:(x.length:Int)≤n
  ·rw[ip (.inr h1)]
   refine Ec (fun k=>by rw[fbw.f,iN h0]) (Es (fun k=>?_) (En _))
   rw[fbw.j0,ip (decide_eq_true h1)]
  ·rw[iN (by omega)]
   by_cases h2:x.length=y.length
   ·rw[ip h2]
    refine Ec (fun k=>by rw[fbw.f,iN h0]) (Es (fun k=>?_) (joined_l x y n hx hy (by omega) (by omega) h2 0 (by omega)))
    rw[fbw.j0,iN (by simp;omega),ip (by omega)];rfl
   ·rw[iN h2]
    refine Ec (fun k=>by rw[fbw.f,iN h0]) (Es (fun k=>?_) (En _))
    rw[fbw.j0,iN (by simp;omega),iN (by omega)]
theorem rd_L0 (l:List (List Int)):rd_L1 l 0=l.getD 0 []:=rfl
theorem rd_L1' (l:List (List Int)):rd_L1 l 1=l.getD 1 []:=rfl
theorem getD_mem (l:List (List Int))(i:Nat)(h:i<l.length):l.getD i []∈l:=by
 rw[List.getD_eq_getElem?_getD,List.getElem?_eq_getElem h];exact List.getElem_mem h
theorem mdims_l (op n a b c p q r t:Int)(kp:Bool)(l:List Int)(dims:List (List Int))(hn:dims.length≤1000)(hl:l.length≤1000)(h33:33≤op)(h40:op≤40)(hd:(dims.length:Int)=(if op=40 then 2 else 1)):∀ i,i≤dims.length→(∀ x∈dims.take i,G.chk x=0) →
  Ev (fun k=>fbt.l0 k op dims dims (dims.length:Int) (i:Int) n a b c p q r t kp l) (if G.fchk (dims.drop i)=0 then
  (if op=38 then G.takd (dims.getD 0 []) n l else if op=39 then G.putd (dims.getD 0 []) n a l else if op=40 then G.joind (dims.getD 0 []) (dims.getD 1 []) n else((G.ses (dims.getD 0 []) op n a b c l).1,(G.ses (dims.getD 0 []) op n a b c l).2.2))
  else([],G.fchk (dims.drop i))):=by
 apply down
 ·intro hc
  rw[List.take_length] at hc
  rw[List.drop_length,ip (show G.fchk []=0 from rfl)]
  have hp:0<dims.length:=by split at hd <;> omega
  have hc0:=hc _ (getD_mem dims 0 hp)
  by_cases h1:op=38
  ·rw[ip h1]
   refine Es (fun k=>by rw[fbt.l0,iN (by omega),ip h1,ip (by omega),rd_L0]) (Eb (mtaken _ n a b c p q r t kp l (by omega)) (En _))
  ·rw[iN h1]
   by_cases h2:op=39
   ·rw[ip h2]
    refine Es (fun k=>by rw[fbt.l0,iN (by omega),iN h1,ip h2,ip (by omega),rd_L0]) (Eb (mput _ n a b c p q r t kp l (by omega)) (En _))
   ·rw[iN h2]
    by_cases h3:op=40
    ·rw[ip h3]
     rw[ip h3] at hd
     have hc1:=hc _ (getD_mem dims 1 (by omega))
     refine Es (fun k=>by rw[fbt.l0,iN (by omega),iN h1,iN h2,ip h3,ip (by omega),ip (by omega),rd_L0,rd_L1']) (Eb (mjoined _ _ n hc0 hc1) (En _))
    ·rw[iN h3]
     have h6:=(G.chk_ok hc0).1
     have hw:=view_whole (dims.getD 0 []) (by omega)
     rw[ip hc0] at hw
     obtain⟨s1,s2⟩:=G.sen_whole hc0 op n a b c l
     refine Es (fun k=>by rw[fbt.l0,iN (by omega),iN h1,iN h2,iN h3,ip (by omega),rd_L0]) (Eb hw (Eb (move_view 0 _ _ op n a b c p q r t kp l hl h33 (by omega)) ?_))
     rw[s1,s2]
     exact En _
 ·intro i hi ih hc
  rw[List.drop_eq_getElem_cons hi]
  unfold G.fchk
  by_cases h:G.chk dims[i]=0
  ·rw[ip h]
   refine Es (fun k=>?_) (ih (fun x hx=>?_))
   ·rw[fbt.l0,ip (by omega),ip (by omega),ip (by omega),rdl dims i hi,shape_check,Option.bind_some,ip h,nx i _ hi (by omega)]
   ·rw[List.take_succ_eq_append_getElem hi,List.mem_append,List.mem_singleton] at hx
    rcases hx with hx|rfl
    ·exact hc x hx
    ·exact h
  ·rw[iN h,iN h]
   refine Es (fun k=>?_) (En _)
   rw[fbt.l0,ip (by omega),ip (by omega),ip (by omega),rdl dims i hi,shape_check,Option.bind_some,iN h]
theorem mdims (op n a b c p q r t:Int)(kp:Bool)(l:List Int)(dims:List (List Int))(hn:dims.length≤1000)(hl:l.length≤1000):Ev (fun k=>fbt.f k op n a b c p q r t kp l dims) (G.mvd op n a b c l dims):=by
 unfold G.mvd
 have j1:Ev (fun k=>fbt.j0 k op dims true n a b c p q r t kp l) (([]:List Int),(1:Int)):=Es (fun k=>by rw[fbt.j0,ip rfl]) (En _)
 by_cases h1:33≤op∧op≤40
 ·rw[ip h1]
  by_cases h2:(dims.length:Int)=(if op=40 then 2 else 1)
  ·rw[ip h2]
   have hm:=mdims_l op n a b c p q r t kp l dims hn hl h1.1 h1.2 h2 0 (by omega) (by simp)
   rw[List.drop_zero] at hm
   have j0:Ev (fun k=>fbt.j0 k op dims false n a b c p q r t kp l) _:=Es (fun k=>by rw[fbt.j0,iN (by simp)];rfl) hm
   by_cases h3:op=40
   ·rw[ip h3] at h2
    refine Ec (fun k=>?_) j0
    rw[fbt.f,fbu.f,ip (by omega),Option.bind_some,ip (by simp;omega),iN (by omega),ip h3,h2];rfl
   ·rw[iN h3] at h2
    refine Ec (fun k=>?_) j0
    rw[fbt.f,fbu.f,ip (by omega),Option.bind_some,ip (by simp;omega),ip (by omega),iN h3]
  ·rw[iN h2]
   by_cases h3:op=40
   ·rw[ip h3] at h2
    have e:((dims.length:Int) != 2)=true:=bne_iff_ne.2 h2
    refine Ec (fun k=>?_) j1
    rw[fbt.f,fbu.f,ip (by omega),Option.bind_some,ip (by simp;omega),ip h3,ip h3,e];simp
   ·rw[iN h3] at h2
    refine Ec (fun k=>?_) j1
    rw[fbt.f,fbu.f,ip (by omega),Option.bind_some,ip (by simp;omega),iN (by omega),iN h3]
 ·rw[iN h1]
  refine Ec (fun k=>?_) (En _)
  rw[fbt.f,fbu.f]
  by_cases g:op ≥ 33
  ·rw[ip g,Option.bind_some,iN (by simp;omega)]
  ·rw[iN g,Option.bind_some,iN (by simp)]
theorem pis (op:Int):fcb.f op=some (decide (1≤op∧op≤40)):=by
 rw[fcb.f]
 by_cases h:op ≥ 1
 ·rw[ip h];congr 1;rw[decide_eq_decide];omega
 ·rw[iN h,decide_eq_false (by omega)]
theorem pari (op:Int):Ev (fun k=>fbz.f k op) (G.ari op):=by
 unfold G.ari
 by_cases h:1≤op∧op≤40
 ·rw[ip h]
  have a1:Ev (fun k=>fbz.j1 k op true) (2:Int):=Es (fun k=>by rw[fbz.j1,ip rfl]) (En _)
  have a2:Ev (fun k=>fbz.j1 k op false) (if 24≤op∧op≤26 then(3:Int)else 1):=by
   refine Es (fun k=>?_) (En _)
   rw[fbz.j1,iN (by simp)]
   by_cases g:op ≥ 24
   ·rw[ip g]
    by_cases g2:op≤26
    ·rw[ip g2,ip ⟨g,g2⟩]
    ·rw[iN g2,iN (by omega)]
   ·rw[iN g,iN (by omega)]
  refine Ec (fun k=>by rw[fbz.f,pis,Option.bind_some,ip (decide_eq_true h)]) ?_
  have b1:Ev (fun k=>fbz.j0 k op true) (2:Int):=Es (fun k=>by rw[fbz.j0,ip rfl]) a1
  have b2:Ev (fun k=>fbz.j0 k op false) (if op=32∨op=40 then(2:Int)else if 24≤op∧op≤26 then(3:Int)else 1):=by
   by_cases c1:op=32
   ·rw[ip (.inl c1)]
    refine Es (fun k=>?_) a1
    rw[fbz.j0,iN (by simp),ip c1,beq_iff_eq.2 c1]
   ·by_cases c2:op=40
    ·rw[ip (.inr c2)]
     refine Es (fun k=>?_) a1
     rw[fbz.j0,iN (by simp),iN c1,beq_iff_eq.2 c2]
    ·rw[iN (by omega)]
     refine Es (fun k=>?_) a2
     rw[fbz.j0,iN (by simp),iN c1,beq_eq_false_iff_ne.2 c2]
  by_cases g:op ≥ 17
  ·by_cases g2:op≤23
   ·rw[ip (.inl ⟨g,g2⟩)]
    refine Ec (fun k=>?_) b1
    rw[ip g,decide_eq_true g2]
   ·refine Ec (fun k=>by rw[ip g,decide_eq_false g2]) ?_
    by_cases c:op=32∨op=40
    ·rw[ip (.inr c)];rw[ip c] at b2;exact b2
    ·rw[iN (by omega)];rw[iN c] at b2;exact b2
  ·refine Ec (fun k=>by rw[iN g]) ?_
   by_cases c:op=32∨op=40
   ·rw[ip (.inr c)];rw[ip c] at b2;exact b2
   ·rw[iN (by omega)];rw[iN c] at b2;exact b2
 ·rw[iN h]
  refine Ec (fun k=>?_) (En _)
  rw[fbz.f,pis,Option.bind_some,iN (by simpa using h)]
theorem pkls (op:Int):fca.f op=some (G.kls op):=by
 rw[fca.f,pis,Option.bind_some]
 unfold G.kls
 by_cases h:1≤op∧op≤40
 ·rw[ip (decide_eq_true h),ip h]
  by_cases h1:op<27
  ·rw[ip h1,ip h1]
  ·rw[iN h1,iN h1]
   by_cases h2:op<32
   ·rw[ip h2,ip h2]
   ·rw[iN h2,iN h2]
    by_cases h3:op=32
    ·rw[ip h3,ip h3]
    ·rw[iN h3,iN h3]
     by_cases h4:op≤37
     ·rw[ip h4,ip h4]
     ·rw[iN h4,iN h4]
 ·rw[iN (by simpa using h),iN h]
theorem icst (p q:Int):fbq.f p q=some (G.cst p q):=by
 rw[fbq.f]
 unfold G.cst
 by_cases h1:p ≥ -1048576
 ·rw[ip h1,decide_eq_true h1,Bool.true_and]
  by_cases h2:p≤1048576
  ·rw[ip h2,decide_eq_true h2,Bool.true_and]
   by_cases h3:q ≥ 1
   ·rw[ip h3,decide_eq_true h3,Bool.true_and]
   ·rw[iN h3,decide_eq_false h3,Bool.false_and]
  ·rw[iN h2,decide_eq_false h2,Bool.false_and,Bool.false_and]
 ·rw[iN h1,decide_eq_false h1,Bool.false_and,Bool.false_and,Bool.false_and]
def cmp4 (p q r s:Int):Bool:=decide (wrap64 (p*s)≤wrap64 (r*q))
theorem iatr (op n a b c p q r s:Int)(kp:Bool)(l:List Int):Ev (fun k=>fbp.f k op n a b c p q r s kp l) (G.atr op n p q r s cmp4):=by
 unfold G.atr
 by_cases h12:op=12
 ·rw[ip h12]
  refine Ec (fun k=>?_) (En _)
  rw[fbp.f,ip h12]
  by_cases g:n ≥ -8
  ·rw[ip g,decide_eq_true g,Bool.true_and]
  ·rw[iN g,decide_eq_false g,Bool.false_and]
 ·rw[iN h12]
  have jt:Ev (fun k=>fbp.j0 k op op true n a b c p q r s kp l) (G.cst p q):=by
   refine Es (fun k=>?_) (En _)
   rw[fbp.j0,ip rfl,icst];rfl
  by_cases h13:op=13
  ·rw[ip (.inl h13)]
   refine Ec (fun k=>?_) jt
   rw[fbp.f,iN h12,ip h13,beq_iff_eq.2 h13]
  ·by_cases h14:op=14
   ·rw[ip (.inr (.inl h14))]
    refine Ec (fun k=>?_) jt
    rw[fbp.f,iN h12,iN h13,ip h14,beq_iff_eq.2 h14]
   ·by_cases h16:op=16
    ·rw[ip (.inr (.inr h16))]
     refine Ec (fun k=>?_) jt
     rw[fbp.f,iN h12,iN h13,iN h14,beq_iff_eq.2 h16]
    ·rw[iN (by omega)]
     refine Ec (fun k=>by rw[fbp.f,iN h12,iN h13,iN h14,beq_eq_false_iff_ne.2 h16]) (Es (fun k=>?_) (En _))
     rw[fbp.j0,iN (by simp)]
     by_cases h15:op=15
     ·rw[ip h15,ip h15,icst,Option.bind_some,icst]
      cases G.cst p q <;> cases G.cst r s <;> rfl
     ·rw[iN h15,iN h15,pis];rfl
theorem all31_l (l:List (List Int))(hn:l.length≤20):∀ i,i≤l.length→∀ o,Ev (fun k=>fcp.l0 k o l (l.length:Int) (i:Int)) (G.mny o (l.drop i)):=by
 apply down
 ·intro o
  rw[List.drop_length]
  refine Es (fun k=>?_) (En _)
  rw[fcp.l0,iN (by omega)];rfl
 ·intro i hi ih o
  rw[List.drop_eq_getElem_cons hi]
  refine Es (fun k=>by rw[fcp.l0,ip (by omega),ip (by omega),ip (by omega),rdl l i hi]) (Eb (two o l[i]) ?_)
  unfold G.mny
  by_cases h:(G.two o l[i]).2=0
  ·rw[ip h]
   simp only[ip h]
   refine Ec (fun k=>?_) (ih _)
   rw[nx i _ hi (by omega)]
  ·rw[iN h]
   simp only[iN h]
   exact En _
theorem all31 (l:List (List Int))(hn:l.length≤20):Ev (fun k=>fcp.f k l) (G.mny [] l):=by
 have:=all31_l l (by omega) 0 (by omega) []
 rw[List.drop_zero] at this
 exact this
theorem rdims (op n a b c p q r s:Int)(kp:Bool)(l d:List Int)(hn:l.length≤1000)(h27:27≤op)(h31:op≤31):Ev (fun k=>fcc.f k op n a b c p q r s kp l d) (G.drop d (G.axes op n l) kp):=by
 have e:fce.f op n a b c p q r s kp l=some (G.axes op n l):=by
  rw[fce.f]
  unfold G.axes
  by_cases h1:op=27
  ·rw[ip h1,ip (.inl h1)]
  ·rw[iN h1]
   by_cases h2:op=28
   ·rw[ip h2,ip (.inr h2)]
   ·rw[iN h2,iN (by omega)]
 refine Ec (fun k=>by rw[fcc.f,fcd.f,ip h27,Option.bind_some,iN (by simp;omega),e,Option.bind_some]) (Eb (shape_drop d (G.axes op n l) kp ?_) (En _))
 unfold G.axes
 split
 ·omega
 ·simp
theorem mm_loop (x y:List Int)(hh:G.fchk [x,y]=0)(R:List Int×Int)(h:Ev (fun k=>if(x.length:Int)<2 then fbs.j1 k x y (x.length:Int) (y.length:Int) true else fbs.j1 k x y (x.length:Int) (y.length:Int) (decide ((y.length:Int)<2))) R) :
  Ev (fun k=>fbs.f k x y) R:=by
 have c:=G.fchk_all hh
 have cx:=c x (by simp)
 have cy:=c y (by simp)
 refine Ec (fun k=>by rw[fbs.f,Option.bind_some]) ?_
 have e1:wrap64 (0+1)=(1:Int):=w64 (by omega) (by omega)
 have e2:wrap64 (1+1)=(2:Int):=w64 (by omega) (by omega)
 refine Es (fun k=>by rw[fbs.l0,ip (by simp),ip (by omega),ip (by simp),show rd_L1 [x,y] 0=x from rfl,shape_check,Option.bind_some,ip cx,e1]) ?_
 refine Es (fun k=>by rw[fbs.l0,ip (by simp),ip (by omega),ip (by simp),show rd_L1 [x,y] 1=y from rfl,shape_check,Option.bind_some,ip cy,e2]) ?_
 refine Es (fun k=>by rw[fbs.l0,iN (by simp)]) h
theorem mdim (x y:List Int)(hh:G.fchk [x,y]=0):Ev (fun k=>fbs.f k x y) (G.mmd x y):=by
 have c:=G.fchk_all hh
 have cx:=c x (by simp)
 have cy:=c y (by simp)
 have x6:=(G.chk_ok cx).1
 have y6:=(G.chk_ok cy).1
 refine mm_loop x y hh _ ?_
 unfold G.mmd
 rw[ip hh]
 have jt:Ev (fun k=>fbs.j1 k x y (x.length:Int) (y.length:Int) true) (([]:List Int),(9:Int)):=Es (fun k=>by rw[fbs.j1,ip rfl]) (En _)
 by_cases h1:(x.length:Int)<2
 ·rw[ip (.inl (by omega))]
  exact Ec (fun k=>by rw[ip h1]) jt
 ·refine Ec (fun k=>by rw[iN h1]) ?_
  by_cases h2:(y.length:Int)<2
  ·rw[ip (.inr (by omega)),decide_eq_true h2]
   exact jt
  ·rw[iN (by omega),decide_eq_false h2]
   have w1:wrap64 ((x.length:Int)-1)=(x.length:Int)-1:=w64 (by omega) (by omega)
   have w2:wrap64 ((x.length:Int)-2)=(x.length:Int)-2:=w64 (by omega) (by omega)
   have w3:wrap64 ((y.length:Int)-1)=(y.length:Int)-1:=w64 (by omega) (by omega)
   have w4:wrap64 ((y.length:Int)-2)=(y.length:Int)-2:=w64 (by omega) (by omega)
   have t1:((x.length:Int)-2).toNat=x.length-2:=by omega
   have t2:((y.length:Int)-2).toNat=y.length-2:=by omega
   refine Es (fun k=>by rw[fbs.j1,iN (by simp),w1,w2,w3,w4,ip (by omega),ip (by omega),ip (by omega),ip (by omega),← at0_rd,← at0_rd,← at0_rd,← at0_rd,t1,t2]) ?_
   by_cases h3:G.at0 x ((x.length:Int)-1)=G.at0 y ((y.length:Int)-2)
   ·rw[ip h3]
    refine Ec (fun k=>by rw[ip h3,ip (by omega),ip (by omega),ip (by omega)]) (Eb (two _ _) ?_)
    have hl:=two_fst_le (x.take (x.length-2)) (y.take (y.length-2))
    by_cases h4:(G.two (x.take (x.length-2)) (y.take (y.length-2))).2=0
    ·rw[ip h4]
     refine Ec (fun k=>?_) (En _)
     rw[ip h4,ip (by omega),ip (by omega),ip (by omega),Option.bind_some,ip (by simp;omega),Option.bind_some,shape_check,Option.bind_some]
     show (if G.chk (G.mmz x y)=0 then some (G.mmz x y,0)else some (([]:List Int),G.chk (G.mmz x y)))=_
     split <;> rfl
    ·rw[iN h4]
     exact Ec (fun k=>by rw[iN h4]) (En _)
   ·rw[iN h3]
    exact Ec (fun k=>by rw[iN h3]) (En _)
theorem idims_l (op n a b c p q r s:Int)(kp:Bool)(l:List Int)(dims:List (List Int))(hn:l.length≤1000)(h1:1≤op)(h40:op≤40)(ha:(dims.length:Int)=G.ari op):∀ i,i≤dims.length→(∀ x∈dims.take i,G.chk x=0) →
  Ev (fun k=>fbr.l0 k op dims dims (dims.length:Int) (i:Int) n a b c p q r s kp l) (if G.fchk (dims.drop i)=0 then(if G.atr op n p q r s cmp4=true then
  (if G.kls op=1 then G.mny [] dims else if G.kls op=2 then G.drop (dims.getD 0 []) (G.axes op n l) kp else if G.kls op=3 then G.mmd (dims.getD 0 []) (dims.getD 1 [])else G.mvd op n a b c l dims)
  else([],1))else([],G.fchk (dims.drop i))):=by
 have hr:G.ari op=2∨G.ari op=3∨G.ari op=1:=by
  unfold G.ari
  rw[ip ⟨h1,h40⟩]
  split
  ·exact .inl rfl
  ·split
   ·exact .inr (.inl rfl)
   ·exact .inr (.inr rfl)
 apply down
 ·intro hc
  rw[List.take_length] at hc
  rw[List.drop_length,ip (show G.fchk []=0 from rfl)]
  have hp:0<dims.length:=by omega
  refine Es (fun k=>by rw[fbr.l0,iN (by omega)]) (Eb (iatr op n a b c p q r s kp l) ?_)
  by_cases g:G.atr op n p q r s cmp4=true
  ·rw[ip g]
   refine Ec (fun k=>by rw[ip g,pkls,Option.bind_some]) ?_
   by_cases k1:G.kls op=1
   ·rw[ip k1]
    exact Ec (fun k=>by rw[ip k1]) (Eb (all31 dims (by omega)) (En _))
   ·rw[iN k1]
    by_cases k2:G.kls op=2
    ·rw[ip k2]
     have:27≤op∧op≤31:=by
      unfold G.kls at k1 k2
      rw[ip ⟨h1,h40⟩] at k1 k2
      split at k2
      ·omega
      ·split at k2
       ·omega
       ·split at k2
        ·omega
        ·split at k2 <;> omega
     exact Ec (fun k=>by rw[iN k1,ip k2,ip (by omega),rd_L0]) (Eb (rdims op n a b c p q r s kp l _ hn this.1 this.2) (En _))
    ·rw[iN k2]
     by_cases k3:G.kls op=3
     ·rw[ip k3]
      have e32:op=32:=by
       unfold G.kls at k3
       rw[ip ⟨h1,h40⟩] at k3
       split at k3
       ·omega
       ·split at k3
        ·omega
        ·split at k3
         ·assumption
         ·split at k3 <;> omega
      have hd2:dims.length=2:=by
       unfold G.ari at ha
       rw[ip ⟨h1,h40⟩,ip (.inr (.inl e32))] at ha
       omega
      have f0:G.fchk [dims.getD 0 [],dims.getD 1 []]=0:=by
       unfold G.fchk
       rw[ip (hc _ (getD_mem dims 0 (by omega)))]
       unfold G.fchk
       rw[ip (hc _ (getD_mem dims 1 (by omega)))]
       rfl
      exact Ec (fun k=>by rw[iN k1,iN k2,ip k3,ip (by omega),ip (by omega),rd_L0,rd_L1']) (Eb (mdim _ _ f0) (En _))
     ·rw[iN k3]
      exact Ec (fun k=>by rw[iN k1,iN k2,iN k3]) (Eb (mdims op n a b c p q r s kp l dims (by omega) hn) (En _))
  ·rw[iN g]
   exact Ec (fun k=>by rw[iN g]) (En _)
 ·intro i hi ih hc
  rw[List.drop_eq_getElem_cons hi]
  unfold G.fchk
  by_cases h:G.chk dims[i]=0
  ·rw[ip h]
   refine Es (fun k=>?_) (ih (fun x hx=>?_))
   ·rw[fbr.l0,ip (by omega),ip (by omega),ip (by omega),rdl dims i hi,shape_check,Option.bind_some,ip h,nx i _ hi (by omega)]
   ·rw[List.take_succ_eq_append_getElem hi,List.mem_append,List.mem_singleton] at hx
    rcases hx with hx|rfl
    ·exact hc x hx
    ·exact h
  ·rw[iN h,iN h]
   refine Es (fun k=>?_) (En _)
   rw[fbr.l0,ip (by omega),ip (by omega),ip (by omega),rdl dims i hi,shape_check,Option.bind_some,iN h]
theorem idims (op n a b c p q r s:Int)(kp:Bool)(l:List Int)(dims:List (List Int))(hn:l.length≤1000):Ev (fun k=>fbr.f k op n a b c p q r s kp l dims) (G.ifd cmp4 op n a b c p q r s kp l dims):=by
 unfold G.ifd
 by_cases h:1≤op∧op≤40
 ·rw[ip h]
  refine Ec (fun k=>by rw[fbr.f,pis,Option.bind_some,ip (decide_eq_true h)]) (Eb (pari op) ?_)
  by_cases h2:(dims.length:Int)=G.ari op
  ·rw[ip h2]
   refine Ec (fun k=>by rw[ip h2]) ?_
   have:=idims_l op n a b c p q r s kp l dims hn h.1 h.2 h2 0 (by omega) (by simp)
   rw[List.drop_zero] at this
   exact this
  ·rw[iN h2]
   exact Ec (fun k=>by rw[iN h2]) (En _)
 ·rw[iN h]
  refine Ec (fun k=>?_) (En _)
  rw[fbr.f,pis,Option.bind_some,iN (by simpa using h)]
theorem nxL (i n:Nat)(h:i<n)(hn:n≤9223372036854775807):wrap64 ((i:Int)+1)=((i+1:Nat):Int):=by
 rw[w64 (by omega) (by omega)];omega
theorem many31_l (n a b c p q r s:Int)(kp:Bool)(l:List Int)(dims:List (List Int))(hn:dims.length≤9223372036854775807):∀ i,i≤dims.length→∃ v,(v=false→l.length≤80∧dims.length≤10)∧Ev (fun k=>fab.l0 k dims (dims.length:Int) (i:Int) n a b c p q r s kp l) v:=by
 apply down
 ·by_cases h:(l.length:Int) > 80
  ·refine⟨true,fun hh=>absurd hh (by simp),Es (fun k=>?_) (En _)⟩
   rw[fab.l0,iN (by omega),ip h]
  ·refine⟨decide ((dims.length:Int) > 10),fun hh=>⟨by omega,by have:=of_decide_eq_false hh;omega⟩,Es (fun k=>?_) (En _)⟩
   rw[fab.l0,iN (by omega),iN h]
 ·intro i hi ih
  obtain⟨v,hv,ih⟩:=ih
  by_cases h:((dims[i].length:Nat):Int) > 20
  ·refine⟨true,fun hh=>absurd hh (by simp),Es (fun k=>?_) (En _)⟩
   rw[fab.l0,ip (by omega),ip (by omega),ip (by omega),rdl dims i hi,ip h]
  ·refine⟨v,hv,Es (fun k=>?_) ih⟩
   rw[fab.l0,ip (by omega),ip (by omega),ip (by omega),rdl dims i hi,iN h,nxL i _ hi hn]
theorem ref_ses (d:List Int)(hok:G.chk d=0) (op n a b c p q r t:Int)(kp:Bool)(l:List Int)(hl:l.length≤1000)(h33:33≤op)(h37:op≤37):Ev (fun k=>faz.f k op n a b c p q r t kp l d) (G.ses d op n a b c l):=by
 unfold G.ses
 by_cases h1:op=33
 ·rw[ip h1]
  exact Ec (fun k=>by rw[faz.f,ip h1]) (Eb (ref_reshape d l) (En _))
 ·by_cases h2:op=34
  ·rw[iN h1,ip h2]
   exact Ec (fun k=>by rw[faz.f,iN h1,ip h2]) (Eb (ref_permute d l (by omega)) (En _))
  ·by_cases h3:op=35
   ·rw[iN h1,iN h2,ip h3]
    exact Ec (fun k=>by rw[faz.f,iN h1,iN h2,ip h3]) (Eb (ref_slice d hok n a b c) (En _))
   ·by_cases h4:op=36
    ·rw[iN h1,iN h2,iN h3,ip h4]
     exact Ec (fun k=>by rw[faz.f,iN h1,iN h2,iN h3,ip h4]) (Eb (ref_expand d l (by omega)) (En _))
    ·rw[iN h1,iN h2,iN h3,iN h4]
     exact Ec (fun k=>by rw[faz.f,iN h1,iN h2,iN h3,iN h4,ip (by omega)]) (Eb (ref_flip d hok n) (En _))
theorem rput_1 (d out:List Int)(n a a2 a3 a4 a5 a6 a7:Int)(a8:Bool)(l:List Int)(hd:G.chk d=0)(h0:0≤n)(h1:n<(d.length:Int))(hl:(l.length:Int)=G.at0 d n):∀ q,q≤(G.alls d).length→∀ ac:List Int,ac.length≤q →
  Ev (fun k=>fbi.l1 k d (G.alls d) ((G.alls d).length:Int) (q:Int) n a a2 a3 a4 a5 a6 a7 a8 l out ac) (out,[],ac++((G.alls d).drop q).map (fun p=>G.plr out (G.mvp n l p)),0):=by
 have hlen:=G.alls_length d
 have h64:=(G.cnt_ok hd).2.2
 have h6:=(G.chk_ok hd).1
 obtain⟨i0,rfl⟩:=Int.eq_ofNat_of_zero_le h0
 apply down
 ·intro ac _
  rw[List.drop_length]
  simp only[List.map_nil,List.append_nil]
  refine Es (fun k=>?_) (En _)
  rw[fbi.l1,iN (by omega)]
 ·intro q hq ih ac hac
  have hp:=(G.mem_alls hd).1 (List.getElem_mem hq)
  have hpl:=G.inb_length hp
  have hpi:=G.inb_a29 hp i0 (by omega)
  have hr:=ih (ac++[G.plr out (G.mvp (i0:Int) l (G.alls d)[q])]) (by simp;omega)
  rw[List.append_assoc] at hr
  rw[List.drop_eq_getElem_cons hq,List.map_cons]
  refine Es (f:=fun k=>(fao.f k out (G.mvp (i0:Int) l (G.alls d)[q])).bind fun t=>(if ac.length<17592186044416 then(fbi.l1 k d (G.alls d) ((G.alls d).length:Int) ((q+1:Nat):Int) (i0:Int) a a2 a3 a4 a5 a6 a7 a8 l out (ac++[t]))else(none))) (fun k=>?_) (Eb (ref_place20 out _) ?_)
  ·rw[fbi.l1,ip (by omega),Option.bind_some,ip (by omega),ip (by omega),rdl _ q hq,ip (by simp;omega),Option.bind_some,List.nil_append,ip (by omega),ip (by omega),← at0_rd,ip hpi.1,ip (by omega),nx q _ hq (by omega),← at0_rd]
   rfl
  ·exact Ec (fun k=>by rw[ip (by omega)]) hr
theorem rput_0 (d out:List Int)(n a a2 a3 a4 a5 a6 a7:Int)(a8:Bool)(l:List Int)(hn:l.length≤1000000000)(R:List Int×List Int×List Int×Int)(hR:Ev (fun k=>(fan.f k d).bind fun L=>fbi.l1 k d L (L.length:Int) 0 n a a2 a3 a4 a5 a6 a7 a8 l out []) R):∀ i,i≤l.length →
  Ev (fun k=>fbi.l0 k d out (l.length:Int) (i:Int) n a a2 a3 a4 a5 a6 a7 a8 l) (if G.inr (l.drop i) a=true then R else([],[],[],11)):=by
 apply down
 ·rw[List.drop_length,ip (show G.inr [] a=true from rfl)]
  refine Es (fun k=>?_) hR
  rw[fbi.l0,iN (by omega)]
 ·intro i hi ih
  have e:=G.inr_cons (rd l (i:Int)) (l.drop (i+1)) a
  rw[dropc l i hi]
  by_cases h0:rd l (i:Int)<0
  ·rw[iN (fun c=>absurd (e.1 c).1.1 (by omega))]
   refine Es (fun k=>?_) (En _)
   rw[fbi.l0,ip (by omega),ip (by omega),ip (by omega),ip h0]
  ·by_cases h1:a≤rd l (i:Int)
   ·rw[iN (fun c=>absurd (e.1 c).1.2 (by omega))]
    refine Es (fun k=>?_) (En _)
    rw[fbi.l0,ip (by omega),ip (by omega),ip (by omega),iN h0,ip h1]
   ·rw[show G.inr (rd l (i:Int)::l.drop (i+1)) a=G.inr (l.drop (i+1)) a by rw[Bool.eq_iff_iff,e];exact⟨fun h=>h.2,fun h=>⟨⟨by omega,by omega⟩,h⟩⟩]
    refine Es (fun k=>?_) ih
    rw[fbi.l0,ip (by omega),ip (by omega),ip (by omega),iN h0,iN h1,nx i _ hi hn]
theorem rput (d:List Int)(n a a2 a3 a4 a5 a6 a7:Int)(a8:Bool)(l:List Int)(hd:G.chk d=0)(hn:l.length≤1000000000):Ev (fun k=>fbi.f k d n a a2 a3 a4 a5 a6 a7 a8 l) (G.putv d n a l):=by
 refine Ec (fun k=>by rw[fbi.f]) (Eb (ref_with d n a) ?_)
 unfold G.putv G.putd
 by_cases h:(G.withd d n a).2=0
 ·obtain⟨w1,w2,w3,w4,w5⟩:=G.withd_o29 h
  rw[ip h]
  refine Ec (fun k=>by rw[ip h,ip w2,ip w3]) ?_
  by_cases h2:(l.length:Int)=G.at0 d n
  ·rw[ip h2]
   refine Ec (fun k=>by rw[← at0_rd,ip h2]) ?_
   have h1:=rput_1 d (G.withd d n a).1 n a a2 a3 a4 a5 a6 a7 a8 l hd w2 w3 h2 0 (by omega) [] (by simp)
   rw[List.drop_zero,List.nil_append] at h1
   have h0:=rput_0 d (G.withd d n a).1 n a a2 a3 a4 a5 a6 a7 a8 l hn _ (Eb (ref_all d) h1) 0 (by omega)
   rw[List.drop_zero] at h0
   by_cases h3:G.inr l a=true
   ·rw[ip h3] at h0
    rw[ip h3,ip rfl]
    exact h0
   ·rw[iN h3] at h0
    rw[iN h3,iN (by decide)]
    exact h0
  ·rw[iN h2,iN (by decide)]
   exact Ec (fun k=>by rw[← at0_rd,iN h2]) (En _)
 ·rw[iN h,iN h]
  exact Ec (fun k=>by rw[iN h]) (En _)
theorem rjoin_1 (x y out:List Int)(n:Int)(hx:G.chk x=0)(ho:G.chk out=0)(h0:0≤n)(h1:n<(x.length:Int))(hl:out.length=x.length):∀ q,q≤(G.alls out).length→∀ wc ac:List Int,wc.length≤q→ac.length≤q →
  Ev (fun k=>fbh.l1 k x y n (G.alls out) ((G.alls out).length:Int) (q:Int) out wc ac) (out,wc++((G.alls out).drop q).map (G.jnw x n),ac++((G.alls out).drop q).map (G.jnf x y n),0):=by
 have hlen:=G.alls_length out
 have h64:=(G.cnt_ok ho).2.2
 have h6:=(G.chk_ok hx).1
 obtain⟨i0,rfl⟩:=Int.eq_ofNat_of_zero_le h0
 have x64:=G.ok_le hx x[i0] (List.getElem_mem (by omega))
 have x1:=(G.chk_ok hx).2.1 x[i0] (List.getElem_mem (by omega))
 have o64:=G.ok_le ho out[i0] (List.getElem_mem (by omega))
 apply down
 ·intro wc ac _ _
  rw[List.drop_length]
  simp only[List.map_nil,List.append_nil]
  refine Es (fun k=>?_) (En _)
  rw[fbh.l1,iN (by omega)]
 ·intro q hq ih wc ac hwc hac
  have hp:=(G.mem_alls ho).1 (List.getElem_mem hq)
  have hpl:=G.inb_length hp
  have hpi:=G.inb_a29 hp i0 (by omega)
  rw[G.at0_g29 out i0 (by omega)] at hpi
  have hr:=ih (wc++[G.jnw x (i0:Int) (G.alls out)[q]]) (ac++[G.jnf x y (i0:Int) (G.alls out)[q]]) (by simp;omega) (by simp;omega)
  rw[List.append_assoc,List.append_assoc] at hr
  rw[List.drop_eq_getElem_cons hq,List.map_cons,List.map_cons]
  by_cases hc:G.at0 (G.alls out)[q] (i0:Int)<G.at0 x (i0:Int)
  ·have e1:G.jnw x (i0:Int) (G.alls out)[q]=0:=by unfold G.jnw;rw[ip hc]
   have e2:G.jnf x y (i0:Int) (G.alls out)[q]=G.plr x (G.alls out)[q]:=by unfold G.jnf;rw[ip hc]
   rw[e1,e2] at hr ⊢
   refine Es (f:=fun k=>(fao.f k x (G.alls out)[q]).bind fun t=>(if ac.length<17592186044416 then(fbh.l1 k x y (i0:Int) (G.alls out) ((G.alls out).length:Int) ((q+1:Nat):Int) out (wc++[0]) (ac++[t]))else(none))) (fun k=>?_) (Eb (ref_place20 x _) ?_)
   ·rw[fbh.l1,ip (by omega),Option.bind_some,ip (by omega),ip (by omega),rdl _ q hq,ip (by simp;omega),Option.bind_some,List.nil_append,ip (by omega),ip (by omega),ip (by omega),← at0_rd,← at0_rd,ip hc,ip (by omega),nx q _ hq (by omega)]
   ·exact Ec (fun k=>by rw[ip (by omega)]) hr
  ·have e1:G.jnw x (i0:Int) (G.alls out)[q]=1:=by unfold G.jnw;rw[iN hc]
   have e2:G.jnf x y (i0:Int) (G.alls out)[q]=G.plr y ((G.alls out)[q].set i0 (G.at0 (G.alls out)[q] (i0:Int)-G.at0 x (i0:Int))):=by unfold G.jnf;rw[iN hc,Int.toNat_natCast]
   rw[e1,e2] at hr ⊢
   have ew:wrap64 (G.at0 (G.alls out)[q] (i0:Int)-G.at0 x (i0:Int))=G.at0 (G.alls out)[q] (i0:Int)-G.at0 x (i0:Int):=by
    rw[G.at0_g29 x i0 (by omega)] at hc ⊢
    exact w64 (by omega) (by omega)
   refine Es (f:=fun k=>(fao.f k y ((G.alls out)[q].set i0 (G.at0 (G.alls out)[q] (i0:Int)-G.at0 x (i0:Int)))).bind fun t=>(if ac.length<17592186044416 then(fbh.l1 k x y (i0:Int) (G.alls out) ((G.alls out).length:Int) ((q+1:Nat):Int) out (wc++[1]) (ac++[t]))else(none))) (fun k=>?_) (Eb (ref_place20 y _) ?_)
   ·rw[fbh.l1,ip (by omega),Option.bind_some,ip (by omega),ip (by omega),rdl _ q hq,ip (by simp;omega),Option.bind_some,List.nil_append,ip (by omega),ip (by omega),ip (by omega),← at0_rd,← at0_rd,iN hc,ip (by omega),nx q _ hq (by omega),ew,Int.toNat_natCast]
   ·exact Ec (fun k=>by rw[ip (by omega)]) hr
theorem rjoin_0 (x y:List Int)(n:Int)(hx:G.chk x=0)(hy:G.chk y=0)(h0:0≤n)(h1:n<(x.length:Int))(hl:x.length=y.length):∀ i,i≤x.length →
  Ev (fun k=>fbh.l0 k x y n (x.length:Int) (i:Int)) (if G.jok n x y i=true then(if(G.withd x n (G.at0 x n+G.at0 y n)).2=0 then((G.withd x n (G.at0 x n+G.at0 y n)).1,(G.alls (G.withd x n (G.at0 x n+G.at0 y n)).1).map (G.jnw x n),(G.alls (G.withd x n (G.at0 x n+G.at0 y n)).1).map (G.jnf x y n),0)else([],[],[],(G.withd x n (G.at0 x n+G.at0 y n)).2))else([],[],[],8)):=by
 have h6:=(G.chk_ok hx).1
 apply down
 ·rw[ip (G.jok_end n x y)]
  refine Es (fun k=>by rw[fbh.l0,iN (by omega),ip h0,ip h1,ip (by omega),joined_w x y n hx hy h0 h1 hl]) (Eb (ref_with x n _) ?_)
  by_cases h:(G.withd x n (G.at0 x n+G.at0 y n)).2=0
  ·obtain⟨w1,w2,w3,w4,w5⟩:=G.withd_o29 h
   rw[ip h]
   refine Ec (fun k=>by rw[ip h]) (Eb (ref_all _) ?_)
   have:=rjoin_1 x y (G.withd x n (G.at0 x n+G.at0 y n)).1 n hx (by rw[w5];exact w4) h0 h1 (by rw[w5];simp) 0 (by omega) [] [] (by simp) (by simp)
   rw[List.drop_zero,List.nil_append,List.nil_append] at this
   exact this
  ·rw[iN h]
   exact Ec (fun k=>by rw[iN h]) (En _)
 ·intro i hi ih
  have e:=G.jok_step n x y i hi
  by_cases g0:(i:Int)=n
  ·rw[decide_eq_true g0,Bool.true_or,Bool.true_and] at e
   rw[e]
   refine Es (fun k=>?_) ih
   rw[fbh.l0,ip (by omega),ip g0,nx i _ hi (by omega)]
  ·rw[decide_eq_false g0,Bool.false_or] at e
   by_cases g1:G.at0 x (i:Int)=G.at0 y (i:Int)
   ·rw[decide_eq_true g1,Bool.true_and] at e
    rw[e]
    refine Es (fun k=>?_) ih
    rw[fbh.l0,ip (by omega),iN g0,ip (by omega),ip (by omega),ip (by omega),← at0_rd,← at0_rd,ip g1,nx i _ hi (by omega)]
   ·rw[decide_eq_false g1,Bool.false_and] at e
    rw[e,iN (by simp)]
    refine Es (fun k=>?_) (En _)
    rw[fbh.l0,ip (by omega),iN g0,ip (by omega),ip (by omega),ip (by omega),← at0_rd,← at0_rd,iN g1]
theorem rjoin (x y:List Int)(n:Int)(hx:G.chk x=0)(hy:G.chk y=0):Ev (fun k=>fbh.f k x y n) (G.joinv x y n):=by
 unfold G.joinv
 by_cases h0:n<0
 ·have e:G.joind x y n=([],10):=by unfold G.joind;rw[ip (.inl h0)]
  rw[e,iN (by decide)]
  refine Ec (fun k=>by rw[fbh.f,ip h0]) (Es (fun k=>?_) (En _))
  rw[fbh.j0,ip rfl]
 ·by_cases h1:(x.length:Int)≤n
  ·have e:G.joind x y n=([],10):=by unfold G.joind;rw[ip (.inr h1)]
   rw[e,iN (by decide)]
   refine Ec (fun k=>by rw[fbh.f,iN h0]) (Es (fun k=>?_) (En _))
   rw[fbh.j0,ip (decide_eq_true h1)]
  ·by_cases h2:x.length=y.length
   ·have hj:=rjoin_0 x y n hx hy (by omega) (by omega) h2 0 (by omega)
    refine Ec (fun k=>by rw[fbh.f,iN h0]) (Es (f:=fun k=>fbh.l0 k x y n (x.length:Int) ((0:Nat):Int)) (fun k=>?_) ?_)
    ·rw[fbh.j0,iN (by simp;omega),ip (by omega)];rfl
    ·by_cases h3:G.jok n x y 0=true
     ·have e:G.joind x y n=G.withd x n (G.at0 x n+G.at0 y n):=by unfold G.joind;rw[iN (by omega),ip h2,ip h3]
      rw[ip h3] at hj
      rw[e]
      exact hj
     ·have e:G.joind x y n=([],8):=by unfold G.joind;rw[iN (by omega),ip h2,iN h3]
      rw[iN h3] at hj
      rw[e,iN (by decide)]
      exact hj
   ·have e:G.joind x y n=([],8):=by unfold G.joind;rw[iN (by omega),iN h2]
    rw[e,iN (by decide)]
    refine Ec (fun k=>by rw[fbh.f,iN h0]) (Es (fun k=>?_) (En _))
    rw[fbh.j0,iN (by simp;omega),iN (by omega)]
theorem rsingle_l (d:List Int)(n a b c p q r t:Int)(kp:Bool)(l:List Int)(hn:l.length≤1000000000)(h0:0≤n)(h1:n<(d.length:Int))(R:List Int×List Int×Int)(hR:G.inr l (G.at0 d n)=true→Ev (fun k=>fbb.f k d n l) R):∀ i,i≤l.length→G.inr (l.take i) (G.at0 d n)=true →
  Ev (fun k=>fbj.l0 k d (l.length:Int) (i:Int) n a b c p q r t kp l) (if G.inr (l.drop i) (G.at0 d n)=true then R else([],[],11)):=by
 apply down
 ·intro ht
  rw[List.take_length] at ht
  rw[List.drop_length,ip (show G.inr [] (G.at0 d n)=true from rfl)]
  refine Es (fun k=>by rw[fbj.l0,iN (by omega)]) (Eb (hR ht) (En _))
 ·intro i hi ih ht
  have e:=G.inr_cons (rd l (i:Int)) (l.drop (i+1)) (G.at0 d n)
  rw[dropc l i hi]
  by_cases g0:rd l (i:Int)<0
  ·rw[iN (fun c=>absurd (e.1 c).1.1 (by omega))]
   refine Es (fun k=>?_) (En _)
   rw[fbj.l0,ip (by omega),ip (by omega),ip (by omega),ip g0]
  ·by_cases g1:G.at0 d n≤rd l (i:Int)
   ·rw[iN (fun c=>absurd (e.1 c).1.2 (by omega))]
    refine Es (fun k=>?_) (En _)
    rw[fbj.l0,ip (by omega),ip (by omega),ip (by omega),iN g0,ip h0,ip h1,← at0_rd d,ip g1]
   ·rw[show G.inr (rd l (i:Int)::l.drop (i+1)) (G.at0 d n)=G.inr (l.drop (i+1)) (G.at0 d n) by rw[Bool.eq_iff_iff,e];exact⟨fun h=>h.2,fun h=>⟨⟨by omega,by omega⟩,h⟩⟩]
    refine Es (fun k=>?_) (ih ?_)
    ·rw[fbj.l0,ip (by omega),ip (by omega),ip (by omega),iN g0,ip h0,ip h1,← at0_rd d,iN g1,nx i _ hi hn]
    ·rw[List.take_succ_eq_append_getElem hi]
     unfold G.inr at ht ⊢
     rw[List.all_append,ht,← rdg l i hi]
     simp;omega
theorem rsingle (d:List Int)(hok:G.chk d=0) (op n a b c p q r t:Int)(kp:Bool)(l:List Int)(hl:l.length≤1000)(h33:33≤op)(h38:op≤38):Ev (fun k=>fbj.f k op n a b c p q r t kp l d) (G.sgl d op n a b c l):=by
 unfold G.sgl
 by_cases h:op=38
 ·rw[ip h]
  by_cases h0:n<0
  ·rw[ip (.inl h0)]
   refine Ec (fun k=>by rw[fbj.f,ip h,ip h0]) (Es (fun k=>?_) (En _))
   rw[fbj.j0,ip rfl]
  ·by_cases h1:(d.length:Int)≤n
   ·rw[ip (.inr h1)]
    refine Ec (fun k=>by rw[fbj.f,ip h,iN h0]) (Es (fun k=>?_) (En _))
    rw[fbj.j0,ip (decide_eq_true h1)]
   ·rw[iN (by omega)]
    refine Ec (fun k=>by rw[fbj.f,ip h,iN h0]) (Es (fun k=>by rw[fbj.j0,iN (by simp;omega)]) ?_)
    have hm:=rsingle_l d n a b c p q r t kp l (by omega) (by omega) (by omega) (G.rtk d n l) (fun hi=>by
     obtain⟨i0,rfl⟩:=Int.eq_ofNat_of_zero_le (show 0≤n by omega)
     refine ref_take d hok i0 (by omega) l (fun m hm=>?_)
     unfold G.inr at hi
     rw[List.all_eq_true] at hi
     simpa using hi m hm) 0 (by omega) rfl
    rw[List.drop_zero] at hm
    exact hm
 ·rw[iN h]
  exact Ec (fun k=>by rw[fbj.f,iN h]) (Eb (ref_ses d hok op n a b c p q r t kp l hl h33 (by omega)) (En _))
theorem rof_1 (out from_:List Int)(m:Nat)(hm:m≤1000):∀ i,i≤m→Ev (fun k=>fbg.l1 k (m:Int) (i:Int) out (List.replicate i 0) from_) (out,List.replicate m 0,from_,0):=by
 apply down
 ·refine Es (fun k=>?_) (En _)
  rw[fbg.l1,iN (by omega)]
 ·intro i hi ih
  rw[List.replicate_succ'] at ih
  refine Es (fun k=>?_) ih
  rw[fbg.l1,ip (by omega),ip (by simp;omega),nx i _ hi (by omega)]
theorem sgl_len (d:List Int)(hok:G.chk d=0) (op n a b c:Int)(l:List Int)(h:(G.sgl d op n a b c l).2.2=0):(G.sgl d op n a b c l).2.1.length≤1000:=by
 unfold G.sgl at h ⊢
 by_cases h1:op=38
 ·rw[ip h1] at h ⊢
  by_cases h2:n<0∨(d.length:Int)≤n
  ·rw[ip h2];simp
  ·rw[iN h2] at h ⊢
   by_cases h3:G.inr l (G.at0 d n)=true
   ·rw[ip h3] at h ⊢
    unfold G.rtk at h ⊢
    by_cases h4:(G.withd d n (l.length:Int)).2=0
    ·rw[ip h4]
     obtain⟨w1,w2,w3,w4,w5⟩:=G.withd_o29 h4
     unfold G.nums
     rw[List.length_map]
     have:=G.alls_length (G.withd d n (l.length:Int)).1
     have:=(G.cnt_ok (show G.chk (G.withd d n (l.length:Int)).1=0 by rw[w5];exact w4)).2.2
     omega
    ·rw[iN h4];simp
   ·rw[iN h3];simp
 ·rw[iN h1] at h ⊢
  have hg:=G.agr_sen (G.whole_rgt hok) op n a b c l (fun _=>G.whole_row hok)
  have:=(hg.1 h).2.2.2.2.1
  omega
theorem rof_l (op n a b c p q r t:Int)(kp:Bool)(l:List Int)(dims:List (List Int))(hn:dims.length≤1000)(hl:l.length≤1000)(h33:33≤op)(h40:op≤40)(hd:(dims.length:Int)=(if op=40 then 2 else 1)):∀ i,i≤dims.length→(∀ x∈dims.take i,G.chk x=0) →
  Ev (fun k=>fbg.l0 k op dims (dims.length:Int) (i:Int) n a b c p q r t kp l) (if G.fchk (dims.drop i)=0 then
  (if op=39 then G.putv (dims.getD 0 []) n a l else if op=40 then G.joinv (dims.getD 0 []) (dims.getD 1 []) n else
   if(G.sgl (dims.getD 0 []) op n a b c l).2.2=0 then((G.sgl (dims.getD 0 []) op n a b c l).1,List.replicate (G.sgl (dims.getD 0 []) op n a b c l).2.1.length 0,(G.sgl (dims.getD 0 []) op n a b c l).2.1,0)else([],[],[],(G.sgl (dims.getD 0 []) op n a b c l).2.2))
  else([],[],[],G.fchk (dims.drop i))):=by
 apply down
 ·intro hc
  rw[List.take_length] at hc
  rw[List.drop_length,ip (show G.fchk []=0 from rfl)]
  have hp:0<dims.length:=by split at hd <;> omega
  have hc0:=hc _ (getD_mem dims 0 hp)
  by_cases h2:op=39
  ·rw[ip h2]
   refine Es (fun k=>by rw[fbg.l0,iN (by omega),ip h2,ip (by omega),rd_L0]) (Eb (rput _ n a b c p q r t kp l hc0 (by omega)) (En _))
  ·rw[iN h2]
   by_cases h3:op=40
   ·rw[ip h3]
    rw[ip h3] at hd
    have hc1:=hc _ (getD_mem dims 1 (by omega))
    refine Es (fun k=>by rw[fbg.l0,iN (by omega),iN h2,ip h3,ip (by omega),ip (by omega),rd_L0,rd_L1']) (Eb (rjoin _ _ n hc0 hc1) (En _))
   ·rw[iN h3]
    refine Es (fun k=>by rw[fbg.l0,iN (by omega),iN h2,iN h3,ip (by omega),rd_L0]) (Eb (rsingle _ hc0 op n a b c p q r t kp l hl h33 (by omega)) ?_)
    by_cases g:(G.sgl (dims.getD 0 []) op n a b c l).2.2=0
    ·rw[ip g]
     refine Ec (fun k=>by rw[ip g]) ?_
     have:=rof_1 (G.sgl (dims.getD 0 []) op n a b c l).1 (G.sgl (dims.getD 0 []) op n a b c l).2.1 _ (sgl_len _ hc0 op n a b c l g) 0 (by omega)
     exact this
    ·rw[iN g]
     exact Ec (fun k=>by rw[iN g]) (En _)
 ·intro i hi ih hc
  rw[List.drop_eq_getElem_cons hi]
  unfold G.fchk
  by_cases h:G.chk dims[i]=0
  ·rw[ip h]
   refine Es (fun k=>by rw[fbg.l0,ip (by omega),ip (by omega),ip (by omega),rdl dims i hi]) (Eb (ref_check _) ?_)
   refine Ec (fun k=>by rw[ip h,nx i _ hi (by omega)]) (ih (fun x hx=>?_))
   rw[List.take_succ_eq_append_getElem hi,List.mem_append,List.mem_singleton] at hx
   rcases hx with hx|rfl
   ·exact hc x hx
   ·exact h
  ·rw[iN h,iN h]
   refine Es (fun k=>by rw[fbg.l0,ip (by omega),ip (by omega),ip (by omega),rdl dims i hi]) (Eb (ref_check _) ?_)
   exact Ec (fun k=>by rw[iN h]) (En _)
theorem rof (op n a b c p q r t:Int)(kp:Bool)(l:List Int)(dims:List (List Int))(hn:dims.length≤1000)(hl:l.length≤1000):Ev (fun k=>fbg.f k op n a b c p q r t kp l dims) (G.ofv op n a b c l dims):=by
 unfold G.ofv
 have jt:Ev (fun k=>fbg.j0 k op dims true n a b c p q r t kp l) (([]:List Int),([]:List Int),([]:List Int),(14:Int)):=Es (fun k=>by rw[fbg.j0,ip rfl]) (En _)
 by_cases h1:33≤op∧op≤40
 ·rw[ip h1]
  refine Ec (fun k=>by rw[fbg.f,iN (by omega)]) (Ec (fun k=>by rw[decide_eq_false (show ¬ op > 40 by omega)]) ?_)
  have j1:Ev (fun k=>fbg.j1 k op dims true n a b c p q r t kp l) (([]:List Int),([]:List Int),([]:List Int),(1:Int)):=Es (fun k=>by rw[fbg.j1,ip rfl]) (En _)
  by_cases h2:(dims.length:Int)=(if op=40 then 2 else 1)
  ·rw[ip h2]
   have hm:=rof_l op n a b c p q r t kp l dims hn hl h1.1 h1.2 h2 0 (by omega) (by simp)
   rw[List.drop_zero] at hm
   have j1':Ev (fun k=>fbg.j1 k op dims false n a b c p q r t kp l) _:=Es (fun k=>by rw[fbg.j1,iN (by simp)];rfl) hm
   refine Es (fun k=>?_) j1'
   rw[fbg.j0,iN (by simp)]
   by_cases h3:op=40
   ·rw[ip h3] at h2;rw[ip h3,ip h2]
   ·rw[iN h3] at h2;rw[iN h3,bne_eq_false_iff_eq.2 h2]
  ·rw[iN h2]
   refine Es (fun k=>?_) j1
   rw[fbg.j0,iN (by simp)]
   by_cases h3:op=40
   ·rw[ip h3] at h2;rw[ip h3,iN h2]
   ·rw[iN h3] at h2;rw[iN h3,bne_iff_ne.2 h2]
 ·rw[iN h1]
  refine Ec (fun k=>?_) jt
  rw[fbg.f]
  by_cases g:op<33
  ·rw[ip g]
  ·rw[iN g,decide_eq_true (by omega)]
end Go.Proofs.Ytcdiobcldhiemaa.S
namespace Go.Proofs.Ytcdiobcldhiemaa.Pure
open Go.RowKit Go.Proofs.Ytcdiobcldhiemaa.Q Go.Proofs.Ytcdiobcldhiemaa.S Go.Proofs.YtcdiobcldhiemaaW.PrintWords Go.Proofs.YtcdiobcldhiemaaW.PrintLast
set_option linter.unusedVariables false
set_option linter.unusedSimpArgs false
theorem rcls (op:Int):Ev (fun k=>fbl.f k op) (G.kls op):=by
 have jt:Ev (fun k=>fbl.j0 k op true) (0:Int):=Es (fun k=>by rw[fbl.j0,ip rfl]) (En _)
 unfold G.kls
 by_cases h:1≤op∧op≤40
 ·rw[ip h]
  refine Ec (fun k=>by rw[fbl.f,iN (by omega),decide_eq_false (show ¬ op > 40 by omega)]) (Es (fun k=>?_) (En _))
  rw[fbl.j0,iN (by simp)]
  by_cases h1:op<27
  ·rw[ip h1,ip (by omega)]
  ·rw[iN h1,iN (by omega)]
   by_cases h2:op<32
   ·rw[ip h2,ip (by omega)]
   ·rw[iN h2,iN (by omega)]
    by_cases h3:op=32
    ·rw[ip h3,ip h3]
    ·rw[iN h3,iN h3]
     by_cases h4:op≤37
     ·rw[ip h4,ip h4]
     ·rw[iN h4,iN h4]
 ·rw[iN h]
  refine Ec (fun k=>?_) jt
  rw[fbl.f]
  by_cases g:op<1
  ·rw[ip g]
  ·rw[iN g,decide_eq_true (by omega)]
theorem rari (op:Int):Ev (fun k=>fbk.f k op) (G.ari op):=by
 have jt:Ev (fun k=>fbk.j0 k op true) (0:Int):=Es (fun k=>by rw[fbk.j0,ip rfl]) (En _)
 have a1:Ev (fun k=>fbk.j1 k op true) (2:Int):=Es (fun k=>by rw[fbk.j1,ip rfl]) (En _)
 have a2:Ev (fun k=>fbk.j1 k op false) (if 24≤op∧op≤26 then(3:Int)else 1):=by
  refine Es (fun k=>?_) (En _)
  rw[fbk.j1,iN (by simp)]
  by_cases g:op ≥ 24
  ·rw[ip g]
   by_cases g2:op≤26
   ·rw[ip g2,ip ⟨g,g2⟩]
   ·rw[iN g2,iN (by omega)]
  ·rw[iN g,iN (by omega)]
 unfold G.ari
 by_cases h:1≤op∧op≤40
 ·rw[ip h]
  refine Ec (fun k=>by rw[fbk.f,iN (by omega),decide_eq_false (show ¬ op > 40 by omega)]) ?_
  by_cases c1:17≤op∧op≤23
  ·rw[ip (.inl c1)]
   refine Es (fun k=>?_) a1
   rw[fbk.j0,iN (by simp),ip c1.1,ip c1.2]
  ·by_cases c2:op=32
   ·rw[ip (.inr (.inl c2))]
    refine Es (fun k=>?_) a1
    rw[fbk.j0,iN (by simp),ip (by omega),iN (by omega),ip c2]
   ·by_cases c3:op=40
    ·rw[ip (.inr (.inr c3))]
     refine Es (fun k=>?_) a1
     rw[fbk.j0,iN (by simp),ip (by omega),iN (by omega),iN c2,beq_iff_eq.2 c3]
    ·rw[iN (by omega)]
     refine Es (fun k=>?_) a2
     rw[fbk.j0,iN (by simp)]
     by_cases g:op ≥ 17
     ·rw[ip g,iN (by omega),iN c2,beq_eq_false_iff_ne.2 c3]
     ·rw[iN g,iN c2,beq_eq_false_iff_ne.2 c3]
 ·rw[iN h]
  refine Ec (fun k=>?_) jt
  rw[fbk.f]
  by_cases g:op<1
  ·rw[ip g]
  ·rw[iN g,decide_eq_true (by omega)]
theorem rcst (p q:Int):fbn.f p q=some (G.cst p q):=by
 rw[fbn.f]
 unfold G.cst
 by_cases h1:p ≥ -1048576
 ·rw[ip h1,decide_eq_true h1,Bool.true_and]
  by_cases h2:p≤1048576
  ·rw[ip h2,decide_eq_true h2,Bool.true_and]
   by_cases h3:q ≥ 1
   ·rw[ip h3,decide_eq_true h3,Bool.true_and]
   ·rw[iN h3,decide_eq_false h3,Bool.false_and]
  ·rw[iN h2,decide_eq_false h2,Bool.false_and,Bool.false_and]
 ·rw[iN h1,decide_eq_false h1,Bool.false_and,Bool.false_and,Bool.false_and]
theorem kls_pos (op:Int):decide (G.kls op > 0)=decide (1≤op∧op≤40):=by
 unfold G.kls
 by_cases h:1≤op∧op≤40
 ·rw[ip h,decide_eq_true h]
  split
  ·rfl
  ·split
   ·rfl
   ·split
    ·rfl
    ·split <;> rfl
 ·rw[iN h,decide_eq_false h];rfl
theorem ratr (op n a b c p q r s:Int)(kp:Bool)(l:List Int):Ev (fun k=>fbm.f k op n a b c p q r s kp l) (G.atr op n p q r s cmp4):=by
 unfold G.atr
 by_cases h12:op=12
 ·rw[ip h12]
  refine Ec (fun k=>?_) (En _)
  rw[fbm.f,ip h12]
  by_cases g:n ≥ -8
  ·rw[ip g,decide_eq_true g,Bool.true_and]
  ·rw[iN g,decide_eq_false g,Bool.false_and]
 ·rw[iN h12]
  have jt:Ev (fun k=>fbm.j0 k op true n a b c p q r s kp l) (G.cst p q):=by
   refine Es (fun k=>?_) (En _)
   rw[fbm.j0,ip rfl,rcst];rfl
  by_cases h13:op=13
  ·rw[ip (.inl h13)]
   refine Ec (fun k=>?_) jt
   rw[fbm.f,iN h12,ip h13]
  ·by_cases h14:op=14
   ·rw[ip (.inr (.inl h14))]
    refine Ec (fun k=>?_) jt
    rw[fbm.f,iN h12,iN h13,ip h14]
   ·by_cases h16:op=16
    ·rw[ip (.inr (.inr h16))]
     refine Ec (fun k=>?_) jt
     rw[fbm.f,iN h12,iN h13,iN h14,beq_iff_eq.2 h16]
    ·rw[iN (by omega)]
     refine Ec (fun k=>by rw[fbm.f,iN h12,iN h13,iN h14,beq_eq_false_iff_ne.2 h16]) ?_
     by_cases h15:op=15
     ·rw[ip h15]
      refine Es (fun k=>?_) (En _)
      rw[fbm.j0,iN (by simp),ip h15,rcst,Option.bind_some,rcst]
      cases G.cst p q <;> cases G.cst r s <;> rfl
     ·rw[iN h15]
      refine Es (fun k=>by rw[fbm.j0,iN (by simp),iN h15]) (Eb (rcls op) ?_)
      rw[kls_pos]
      exact En _
theorem rall_l (l:List (List Int))(hn:l.length≤20):∀ i,i≤l.length→∀ o,Ev (fun k=>fap.l0 k l o (l.length:Int) (i:Int)) (G.mny o (l.drop i)):=by
 apply down
 ·intro o
  rw[List.drop_length]
  refine Es (fun k=>?_) (En _)
  rw[fap.l0,iN (by omega)];rfl
 ·intro i hi ih o
  rw[List.drop_eq_getElem_cons hi]
  refine Es (fun k=>by rw[fap.l0,ip (by omega),ip (by omega),ip (by omega),rdl l i hi]) (Eb (ref_two o l[i]) ?_)
  unfold G.mny
  by_cases h:(G.two o l[i]).2=0
  ·rw[ip h]
   simp only[ip h]
   refine Ec (fun k=>?_) (ih _)
   rw[nx i _ hi (by omega)]
  ·rw[iN h]
   simp only[iN h]
   exact En _
theorem rall (l:List (List Int))(hn:l.length≤20):Ev (fun k=>fap.f k l) (G.mny [] l):=by
 have:=rall_l l (by omega) 0 (by omega) []
 rw[List.drop_zero] at this
 exact this
theorem rrdims (op n a b c p q r s:Int)(kp:Bool)(l d:List Int)(hn:l.length≤1000)(h27:27≤op)(h31:op≤31):Ev (fun k=>fbd.f k op n a b c p q r s kp l d) (G.drop d (G.axes op n l) kp):=by
 have e:fbe.f op n a b c p q r s kp l=some (G.axes op n l):=by
  rw[fbe.f]
  unfold G.axes
  by_cases h1:op=27
  ·rw[ip h1,ip (.inl h1)]
  ·rw[iN h1]
   by_cases h2:op=28
   ·rw[ip h2,ip (.inr h2)]
   ·rw[iN h2,iN (by omega)]
 refine Ec (fun k=>by rw[fbd.f,iN (by omega),iN (by omega),e,Option.bind_some]) (Eb (ref_drop d (G.axes op n l) kp ?_) (En _))
 unfold G.axes
 split
 ·omega
 ·simp
theorem rmdim (x y:List Int)(hh:G.fchk [x,y]=0):Ev (fun k=>fbf.f k x y) (G.mmd x y):=by
 have c:=G.fchk_all hh
 have cx:=c x (by simp)
 have cy:=c y (by simp)
 have x6:=(G.chk_ok cx).1
 have y6:=(G.chk_ok cy).1
 refine Ec (fun k=>by rw[fbf.f]) (Eb (ref_check x) (Eb (ref_check y) ?_))
 unfold G.mmd
 rw[ip hh]
 refine Ec (fun k=>by rw[ip cx,ip cy]) ?_
 have jt:Ev (fun k=>fbf.j0 k x y (x.length:Int) (y.length:Int) true) (([]:List Int),(9:Int)):=Es (fun k=>by rw[fbf.j0,ip rfl]) (En _)
 by_cases h1:(x.length:Int)<2
 ·rw[ip (.inl (by omega))]
  exact Ec (fun k=>by rw[ip h1]) jt
 ·refine Ec (fun k=>by rw[iN h1]) ?_
  by_cases h2:(y.length:Int)<2
  ·rw[ip (.inr (by omega)),decide_eq_true h2]
   exact jt
  ·rw[iN (by omega),decide_eq_false h2]
   have w1:wrap64 ((x.length:Int)-1)=(x.length:Int)-1:=w64 (by omega) (by omega)
   have w2:wrap64 ((x.length:Int)-2)=(x.length:Int)-2:=w64 (by omega) (by omega)
   have w3:wrap64 ((y.length:Int)-1)=(y.length:Int)-1:=w64 (by omega) (by omega)
   have w4:wrap64 ((y.length:Int)-2)=(y.length:Int)-2:=w64 (by omega) (by omega)
   have t1:((x.length:Int)-2).toNat=x.length-2:=by omega
   have t2:((y.length:Int)-2).toNat=y.length-2:=by omega
   refine Es (fun k=>by rw[fbf.j0,iN (by simp),w1,w2,w3,w4,ip (by omega),ip (by omega),ip (by omega),ip (by omega),← at0_rd,← at0_rd,← at0_rd,← at0_rd,t1,t2]) ?_
   by_cases h3:G.at0 x ((x.length:Int)-1)=G.at0 y ((y.length:Int)-2)
   ·rw[ip h3]
    refine Ec (fun k=>by rw[ip h3,ip (by omega),ip (by omega),ip (by omega)]) (Eb (ref_two _ _) ?_)
    have hl:=two_fst_le (x.take (x.length-2)) (y.take (y.length-2))
    by_cases h4:(G.two (x.take (x.length-2)) (y.take (y.length-2))).2=0
    ·rw[ip h4]
     refine Ec (f:=fun k=>(fag.f k (G.mmz x y)).bind fun z=>if z=0 then some (G.mmz x y,0)else some (([]:List Int),z)) (fun k=>?_) (Eb (ref_check (G.mmz x y)) ?_)
     ·rw[ip h4,Option.bind_some,ip (by simp;omega),Option.bind_some,List.nil_append,ip (by omega),ip (by omega),ip (by omega),Option.bind_some,ip (by simp;omega),Option.bind_some];rfl
     ·by_cases h5:G.chk (G.mmz x y)=0
      ·rw[ip h5];exact Ec (fun k=>by rw[ip h5]) (En _)
      ·rw[iN h5];exact Ec (fun k=>by rw[iN h5]) (En _)
    ·rw[iN h4]
     exact Ec (fun k=>by rw[iN h4]) (En _)
   ·rw[iN h3]
    exact Ec (fun k=>by rw[iN h3]) (En _)
theorem ridims_l (op n a b c p q r s:Int)(kp:Bool)(l:List Int)(dims:List (List Int))(hn:l.length≤1000)(h1:1≤op)(h40:op≤40)(ha:(dims.length:Int)=G.ari op):∀ i,i≤dims.length→(∀ x∈dims.take i,G.chk x=0) →
  Ev (fun k=>fbo.l0 k op dims (dims.length:Int) (i:Int) n a b c p q r s kp l) (if G.fchk (dims.drop i)=0 then(if G.atr op n p q r s cmp4=true then
  (if G.kls op=1 then G.mny [] dims else if G.kls op=2 then G.drop (dims.getD 0 []) (G.axes op n l) kp else if G.kls op=3 then G.mmd (dims.getD 0 []) (dims.getD 1 [])else G.mvd op n a b c l dims)
  else([],1))else([],G.fchk (dims.drop i))):=by
 have hr:G.ari op=2∨G.ari op=3∨G.ari op=1:=by
  unfold G.ari
  rw[ip ⟨h1,h40⟩]
  split
  ·exact .inl rfl
  ·split
   ·exact .inr (.inl rfl)
   ·exact .inr (.inr rfl)
 apply down
 ·intro hc
  rw[List.take_length] at hc
  rw[List.drop_length,ip (show G.fchk []=0 from rfl)]
  have hp:0<dims.length:=by omega
  refine Es (fun k=>by rw[fbo.l0,iN (by omega)]) (Eb (ratr op n a b c p q r s kp l) ?_)
  by_cases g:G.atr op n p q r s cmp4=true
  ·rw[ip g]
   refine Ec (fun k=>by rw[ip g]) (Eb (rcls op) ?_)
   by_cases k1:G.kls op=1
   ·rw[ip k1]
    exact Ec (fun k=>by rw[ip k1]) (Eb (rall dims (by omega)) (En _))
   ·rw[iN k1]
    refine Ec (fun k=>by rw[iN k1]) (Eb (rcls op) ?_)
    by_cases k2:G.kls op=2
    ·rw[ip k2]
     have:27≤op∧op≤31:=by
      unfold G.kls at k1 k2
      rw[ip ⟨h1,h40⟩] at k1 k2
      split at k2
      ·omega
      ·split at k2
       ·omega
       ·split at k2
        ·omega
        ·split at k2 <;> omega
     exact Ec (fun k=>by rw[ip k2,ip (by omega),rd_L0]) (Eb (rrdims op n a b c p q r s kp l _ hn this.1 this.2) (En _))
    ·rw[iN k2]
     refine Ec (fun k=>by rw[iN k2]) (Eb (rcls op) ?_)
     by_cases k3:G.kls op=3
     ·rw[ip k3]
      have e32:op=32:=by
       unfold G.kls at k3
       rw[ip ⟨h1,h40⟩] at k3
       split at k3
       ·omega
       ·split at k3
        ·omega
        ·split at k3
         ·assumption
         ·split at k3 <;> omega
      have hd2:dims.length=2:=by
       unfold G.ari at ha
       rw[ip ⟨h1,h40⟩,ip (.inr (.inl e32))] at ha
       omega
      have f0:G.fchk [dims.getD 0 [],dims.getD 1 []]=0:=by
       unfold G.fchk
       rw[ip (hc _ (getD_mem dims 0 (by omega)))]
       unfold G.fchk
       rw[ip (hc _ (getD_mem dims 1 (by omega)))]
       rfl
      exact Ec (fun k=>by rw[ip k3,ip (by omega),ip (by omega),rd_L0,rd_L1']) (Eb (rmdim _ _ f0) (En _))
     ·rw[iN k3]
      obtain⟨o1,o2⟩:=G.ofv_mvd op n a b c l dims
      refine Ec (fun k=>by rw[iN k3]) (Eb (rof op n a b c p q r s kp l dims (by omega) hn) ?_)
      by_cases g2:(G.ofv op n a b c l dims).2.2.2=0
      ·refine Ec (fun k=>by rw[ip g2]) ?_
       have:G.mvd op n a b c l dims=((G.ofv op n a b c l dims).1,0):=by rw[o1,← g2,o2]
       rw[this]
       exact En _
      ·refine Ec (fun k=>by rw[iN g2]) ?_
       have h3:(G.mvd op n a b c l dims).1=[]:=(G.rgt_mvd op n a b c l dims).2 (by rw[← o2];exact g2)
       have:G.mvd op n a b c l dims=([],(G.ofv op n a b c l dims).2.2.2):=by rw[o2,← h3]
       rw[this]
       exact En _
  ·rw[iN g]
   exact Ec (fun k=>by rw[iN g]) (En _)
 ·intro i hi ih hc
  rw[List.drop_eq_getElem_cons hi]
  unfold G.fchk
  by_cases h:G.chk dims[i]=0
  ·rw[ip h]
   refine Es (fun k=>by rw[fbo.l0,ip (by omega),ip (by omega),ip (by omega),rdl dims i hi]) (Eb (ref_check _) ?_)
   refine Ec (fun k=>by rw[ip h,nx i _ hi (by omega)]) (ih (fun x hx=>?_))
   rw[List.take_succ_eq_append_getElem hi,List.mem_append,List.mem_singleton] at hx
   rcases hx with hx|rfl
   ·exact hc x hx
   ·exact h
  ·rw[iN h,iN h]
   refine Es (fun k=>by rw[fbo.l0,ip (by omega),ip (by omega),ip (by omega),rdl dims i hi]) (Eb (ref_check _) ?_)
   exact Ec (fun k=>by rw[iN h]) (En _)
theorem kls0 (op:Int):G.kls op=0 ↔ ¬ (1≤op∧op≤40):=by
 have:=kls_pos op
 constructor
 ·intro h h2
  rw[h,decide_eq_true h2] at this
  exact absurd this (by decide)
 ·intro h
  unfold G.kls
  rw[iN h]
theorem ridims (op n a b c p q r s:Int)(kp:Bool)(l:List Int)(dims:List (List Int))(hn:l.length≤1000):Ev (fun k=>fbo.f k op n a b c p q r s kp l dims) (G.ifd cmp4 op n a b c p q r s kp l dims):=by
 unfold G.ifd
 refine Ec (fun k=>by rw[fbo.f]) (Eb (rcls op) ?_)
 by_cases h:1≤op∧op≤40
 ·rw[ip h]
  have hk:¬ G.kls op=0:=fun e=>(kls0 op).1 e h
  refine Ec (fun k=>by rw[iN hk]) (Eb (rari op) ?_)
  by_cases h2:(dims.length:Int)=G.ari op
  ·rw[ip h2]
   refine Ec (fun k=>by rw[ip h2]) ?_
   have:=ridims_l op n a b c p q r s kp l dims hn h.1 h.2 h2 0 (by omega) (by simp)
   rw[List.drop_zero] at this
   exact this
  ·rw[iN h2]
   exact Ec (fun k=>by rw[iN h2]) (En _)
 ·rw[iN h]
  exact Ec (fun k=>by rw[ip ((kls0 op).2 h)]) (En _)
theorem InferDims (op n a b c p q r s:Int)(kp:Bool)(l:List Int)(dims:List (List Int))(hn:dims.length≤9223372036854775807):Ev (fun k=>faa.f k op n a b c p q r s kp l dims) true:=by
 have hs:Ev (fun _:Nat=>(fac.f).bind fun t=>some t) true:=En _
 obtain⟨v,hv,hm⟩:=many31_l n a b c p q r s kp l dims hn 0 (by omega)
 have hm':Ev (fun k=>fab.f k n a b c p q r s kp l dims) v:=Ec (fun k=>by rw[fab.f];rfl) hm
 refine Ec (fun k=>by rw[faa.f]) (Eb hm' ?_)
 cases v with
 | true=>exact Ec (fun k=>by rw[ip rfl]) hs
 | false =>
  obtain⟨b1,b2⟩:=hv rfl
  refine Ec (fun k=>by rw[iN (by simp)]) (Eb (idims op n a b c p q r s kp l dims (by omega)) (Eb (ridims op n a b c p q r s kp l dims (by omega)) ?_))
  have hr:=G.rgt_ifd cmp4 op n a b c p q r s kp l dims (fun d m h=>axs_length d m h)
  have h6:(G.ifd cmp4 op n a b c p q r s kp l dims).1.length≤6:=by
   by_cases h:(G.ifd cmp4 op n a b c p q r s kp l dims).2=0
   ·exact(G.chk_ok (hr.1 h)).1
   ·rw[hr.2 h];simp
  refine Ec (fun k=>by rw[ip rfl]) (Eb (ints_eq rfl (by omega)) ?_)
  refine Ec (fun k=>by rw[ip rfl]) (Eb (iatr op n a b c p q r s kp l) (Eb (ratr op n a b c p q r s kp l) ?_))
  refine Ec (fun k=>?_) hs
  rw[ip (by simp),icst,Option.bind_some,rcst,Option.bind_some,ip (by simp)]
theorem InferDims_walk (w:World) (op:Int)(_:(Lit.int .i64 op).wf=true) (n:Int)(_:(Lit.int .i64 n).wf=true) (a:Int)(_:(Lit.int .i64 a).wf=true) (b:Int)(_:(Lit.int .i64 b).wf=true) (c:Int)(_:(Lit.int .i64 c).wf=true)
  (p:Int) (_:(Lit.int .i64 p).wf=true) (q:Int) (_:(Lit.int .i64 q).wf=true) (r:Int) (_:(Lit.int .i64 r).wf=true) (t:Int) (_:(Lit.int .i64 t).wf=true) (kp:Bool)
  (A:Option Addr) (cc:Nat) (l:List Int) (hr:Kd.C (Kd.int .i64) w A l.length l) (hc:l.length≤cc) (_:∀ x∈l,(Lit.int .i64 x).wf=true)
  (A2:Option Addr) (c2:Nat) (dims:List (List Int)) (hr2:Kd.C (Kd.slice 3 (Kd.int .i64)) w A2 dims.length dims) (hc2:dims.length≤c2) (hlim:dims.length≤maxLen∧∀ x∈dims,∀ y∈x,(Lit.int .i64 y).wf=true) :
  Calls Try.prog 6 #[.int .i64 op,.agg #[.int .i64 n,.int .i64 a,.int .i64 b,.int .i64 c,.int .i64 p,.int .i64 q,.int .i64 r,.int .i64 t,.bool kp,.slice A l.length cc],.slice A2 dims.length c2] w fun e w'=>e=.returned (.bool true)∧Below w.heap.size w w':=by
 obtain⟨k,h⟩:=(InferDims op n a b c p q r t kp l dims (by have:=hlim.1;unfold maxLen at this;omega)).rounds
 exact faa.calls k op n a b c p q r t kp A cc l A2 c2 dims w hr hc hr2 hc2 h
end Go.Proofs.Ytcdiobcldhiemaa.Pure
namespace Go.Proofs.Ytcdiobcldhiemaa.O
open Go.RowKit Go.Proofs.YtcdiobcldhiemaaW.PrintWords
set_option linter.unusedVariables false
/-- Whatever cells of type t can be read are a value of kind d with 'ok'. -/
def Opens {α:Type} (P:Program) (d:Kd α) (t:TypeId) (ok:α→Prop):Prop :=
  P.cellsOf t=d.sz∧∀ (H:Type) (enc:TypeId×Value→H) (w:World) (fuel:Nat) (cs:List Value) (x:DataW H×List MemPlace),
    DataW.trod enc P w 0 (fun _=>true) true fuel t cs=some x→∃ a,d.K w a cs∧ok a
theorem opens_int {P:Program} {t:TypeId} (k:IntKind)(ht:P.underlying t=some (.int k))(hc:P.cellsOf t=1):Opens P (Kd.int k) t (fun n=>(Lit.int k n).wf=true):=by
  refine⟨hc,fun H enc w fuel cs x h=>?_⟩
  obtain⟨n,rfl,_,hw⟩:=DataW.trod_int ht h
  exact⟨n,rfl,hw⟩
theorem opens_bool {P:Program} {t:TypeId} (ht:P.underlying t=some .bool)(hc:P.cellsOf t=1):Opens P Kd.bool t (fun _=>True):=by
  refine⟨hc,fun H enc w fuel cs x h=>?_⟩
  obtain⟨n,rfl,_⟩:=DataW.trod_bool ht h
  exact⟨n,rfl,trivial⟩
theorem cells_each {w:World} {a:Addr} {n:Nat} {cs:List Value} (h:w.cells? 0 a n=some cs):cs.length=n∧∀ i u,cs[i]?=some u→w.cell? (a.add i)=some u:=by
  obtain⟨h1,h2,h3⟩:=World.cells?_some h
  refine⟨h2,fun i u hu=>?_⟩
  have hi:i<n:=by
    have:=(List.getElem?_eq_some_iff.1 hu).1
    omega
  rw[h3 i hi,hu]
theorem opens_slice {α:Type} {P:Program} {t e:TypeId} {d:Kd α} {ok:α→Prop} [Inhabited α] (ht:P.underlying t=some (.slice e))(hc:P.cellsOf t=1)(h:Opens P d e ok) :
    Opens P (Kd.slice e d) t (fun l=>∀ x∈l,ok x):=by
  refine⟨hc,fun H enc w fuel cs x hx=>?_⟩
  rcases Go.Deep.open_slice ht hx with⟨rfl,_⟩|⟨a,len,cap,m,n,D,Pl,rfl,_,hl,hm,hmm,_,hel⟩
  · exact⟨[],⟨none,0,rfl,Nat.le_refl _,rfl,by simp,fun h0=>absurd h0 (by simp)⟩,by simp⟩
  · simp only[if_true] at hmm
    subst hmm
    have each:∀ i,i<m→∃ y:α,∃ cs',w.cells? 0 (a.add (i*P.cellsOf e)) (P.cellsOf e)=some cs'∧d.K w y cs'∧ok y:=by
      intro i hi
      obtain⟨cs',h1,h2⟩:=hel i hi
      obtain⟨y,h3,h4⟩:=h.2 H enc w n cs' _ h2
      exact⟨y,cs',h1,h3,h4⟩
    obtain⟨f,hf⟩:=Go.Deep.choose_lt each
    refine⟨(List.range len).map f,⟨some a,m,by simp,by simpa using hl,by simp,?_,fun _=>⟨a,rfl,fun j p hp=>?_⟩⟩,?_⟩
    · simp only[List.length_map,List.length_range]
      unfold maxLen at hm
      omega
    · rw[List.getElem?_map] at hp
      have hj:j<len:=by
        apply Decidable.byContradiction
        intro hj
        rw[List.getElem?_eq_none (by simpa using hj)] at hp
        simp at hp
      rw[List.getElem?_eq_getElem (by simpa using hj)] at hp
      simp only[List.getElem_range,Option.map_some,Option.some.injEq] at hp
      subst hp
      obtain⟨cs',h1,h3,_⟩:=hf j (by omega)
      obtain⟨h5,h6⟩:=cells_each h1
      refine⟨cs',by rw[h5,h.1],h3,fun i u hu=>?_⟩
      have:=h6 i u hu
      rw[Go.Deep.add_add,h.1] at this
      exact this
    · intro y hy
      simp only[List.mem_map,List.mem_range] at hy
      obtain⟨i,hi,rfl⟩:=hy
      exact(hf i (by omega)).choose_spec.2.2
theorem opens_sliceL {α:Type} {P:Program} {t e:TypeId} {d:Kd α} {ok:α→Prop} [Inhabited α] (ht:P.underlying t=some (.slice e))(hc:P.cellsOf t=1)(h:Opens P d e ok) :
    Opens P (Kd.slice e d) t (fun l=>l.length≤maxLen∧∀ x∈l,ok x):=by
  refine⟨hc,fun H enc w fuel cs x hx=>?_⟩
  rcases Go.Deep.open_slice ht hx with⟨rfl,_⟩|⟨a,len,cap,m,n,D,Pl,rfl,_,hl,hm,hmm,_,hel⟩
  · exact⟨[],⟨none,0,rfl,Nat.le_refl _,rfl,by simp,fun h0=>absurd h0 (by simp)⟩,by simp,by simp⟩
  · simp only[if_true] at hmm
    subst hmm
    have each:∀ i,i<m→∃ y:α,∃ cs',w.cells? 0 (a.add (i*P.cellsOf e)) (P.cellsOf e)=some cs'∧d.K w y cs'∧ok y:=by
      intro i hi
      obtain⟨cs',h1,h2⟩:=hel i hi
      obtain⟨y,h3,h4⟩:=h.2 H enc w n cs' _ h2
      exact⟨y,cs',h1,h3,h4⟩
    obtain⟨f,hf⟩:=Go.Deep.choose_lt each
    refine⟨(List.range len).map f,⟨some a,m,by simp,by simpa using hl,by simp,?_,fun _=>⟨a,rfl,fun j p hp=>?_⟩⟩,by simp only[List.length_map,List.length_range];omega,?_⟩
    · simp only[List.length_map,List.length_range]
      unfold maxLen at hm
      omega
    · rw[List.getElem?_map] at hp
      have hj:j<len:=by
        apply Decidable.byContradiction
        intro hj
        rw[List.getElem?_eq_none (by simpa using hj)] at hp
        simp at hp
      rw[List.getElem?_eq_getElem (by simpa using hj)] at hp
      simp only[List.getElem_range,Option.map_some,Option.some.injEq] at hp
      subst hp
      obtain⟨cs',h1,h3,_⟩:=hf j (by omega)
      obtain⟨h5,h6⟩:=cells_each h1
      refine⟨cs',by rw[h5,h.1],h3,fun i u hu=>?_⟩
      have:=h6 i u hu
      rw[Go.Deep.add_add,h.1] at this
      exact this
    · intro y hy
      simp only[List.mem_map,List.mem_range] at hy
      obtain⟨i,hi,rfl⟩:=hy
      exact(hf i (by omega)).choose_spec.2.2
/-- The fields of a struct, one by one. -/
theorem field {H:Type} {enc:TypeId×Value→H} {P:Program} {w:World} {t:TypeId} {fs:Array Field} {fuel:Nat} {cs:List Value} {x:DataW H×List MemPlace} (ht:P.underlying t=some (.struct fs))(h:DataW.trod enc P w 0 (fun _=>true) true fuel t cs=some x)
    (j:Nat) (f:Field) (hj:fs[j]?=some f):∃ y n,DataW.trod enc P w 0 (fun _=>true) true n f.type ((cs.drop f.offset).take (P.cellsOf f.type))=some y:=by
  obtain⟨xs,n,_,rfl,hl,hlen,hf⟩:=DataW.trod_struct ht h
  have hjl:j<fs.size:=(Array.getElem?_eq_some_iff.1 hj).1
  exact⟨xs[j]'(by omega),n,by rw[hf j f hj,List.getElem?_eq_getElem (by omega)]⟩
theorem seg {l:List Value} {j:Nat} {v:Value} {vs:List Value} (h:(l.drop j).take 1=[v])(h2:l.drop (j+1)=vs):l.drop j=v::vs:=by
  rw[← h2,← List.drop_drop]
  rcases hd:l.drop j with _|⟨a,m⟩
  · rw[hd] at h;simp at h
  · rw[hd] at h;simp at h;simp[h]
theorem seg_end {l:List Value} {n:Nat} (h:l.length=n):l.drop n=[]:=by rw[← h];exact List.drop_length
end Go.Proofs.Ytcdiobcldhiemaa.O
