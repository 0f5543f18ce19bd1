/- The library's Split and Index at the program; a month's number. -/
import Derived.Test.YtljohklbgahomaaGreatDoorMoDe
import Derived.Test.YtljohklbgahomaaGreatDoorMoDr5
set_option linter.unusedSimpArgs false
set_option linter.unusedVariables false
set_option linter.unusedSectionVars false
set_option linter.unnecessarySimpa false
set_option maxRecDepth 100000
set_option maxHeartbeats 16000000
namespace Go.Av
open Go Go.Proofs Go.RowKit
attribute [local irreducible] WP WPl WPix Sat
variable (G:Nat→Option (List AVal))
theorem fE{a b:Int}(h0:0≤a):a.tdiv b=a/b:=Int.tdiv_eq_ediv_of_nonneg h0
theorem bx{a b:Int}(h0:0≤a):a.tmod b=a%b:=Int.tmod_eq_emod_of_nonneg h0
def Dt.av(x:Dt):AVal:=.agg [.int .i64 x.y,.int .i64 x.m,.int .i64 x.d,.int .i64 x.h,.int .i64 x.i,.int .i64 x.s]
@[go_sem] theorem Dt.av_eq(x:Dt):x.av=.agg [.int .i64 x.y,.int .i64 x.m,.int .i64 x.d,.int .i64 x.h,.int .i64 x.i,.int .i64 x.s]:=(rfl)
theorem nr(y:Int)(hy:0≤y)(h:Heap):Sat (CT G) 232 [.int .i64 y] h (fun r h'=>r=.bool (leapF y)∧h'=h):=by
 unfold leapF
 by_cases a:y%4=0
 ·have a1:(y%4==0)=true:=by simp[a]
  by_cases b:y%100=0
  ·have b1:(y%100 !=0)=false:=by simp[b]
   have F:=F4 a1 b1 @bx hy
   refine sb [.tmp 2] (fn:=Tryz.f232) Tryz.func232 ?_
   intro Q hQ
   refine wk F ?_
   refine ee hQ F ?_
   exact Fin.same (.bool _) ⟨by simp[a,b];rfl,rfl⟩
  ·have b1:(y%100 !=0)=true:=by simp[b]
   have F:=F4 a1 b1 @bx hy
   refine sb [.tmp 2] (fn:=Tryz.f232) Tryz.func232 ?_
   intro Q hQ
   refine wk F ?_
   refine ee hQ F ?_
   exact Fin.same (.bool _) ⟨by simp[a,b],rfl⟩
 ·have a1:(y%4==0)=false:=by simp[a]
  have F:=F3 a1 @bx hy
  refine sb [.tmp 2] (fn:=Tryz.f232) Tryz.func232 ?_
  intro Q hQ
  refine wk F ?_
  refine ee hQ F ?_
  exact Fin.same (.bool _) ⟨by simp[a],rfl⟩
theorem ns(y m:Int)(h:Heap):Sat (CT G) 229 [.int .i64 y,.int .i64 m] h (fun r h'=>r=.int .i64 (daysF y m)∧h'=h):=by
 have dt:∀i:Decidable True, @decide True i=true:=fun i=>by simp
 have df:∀i:Decidable False, @decide False i=false:=fun i=>by simp
 by_cases y1:y<1
 ·have e:daysF y m=0:=by unfold daysF;rw[if_pos (by omega)]
  have q:=decide_eq_true y1
  have F:=F3 q dt df
  refine sb [.tmp 4] (fn:=Tryz.f229) Tryz.func229 ?_
  intro Q hQ
  refine wk F ?_
  refine ee hQ F ?_
  exact Fin.same (.int _ _) ⟨by rw[e],rfl⟩
 have q1:=decide_eq_false y1
 by_cases y2:y>9999
 ·have e:daysF y m=0:=by unfold daysF;rw[if_pos (by omega)]
  have q:=decide_eq_true y2
  have F:=F4 q1 q dt df
  refine sb [.tmp 4] (fn:=Tryz.f229) Tryz.func229 ?_
  intro Q hQ
  refine wk F ?_
  refine ee hQ F ?_
  exact Fin.same (.int _ _) ⟨by rw[e],rfl⟩
 have q2:=decide_eq_false y2
 by_cases m1:m<1
 ·have e:daysF y m=0:=by unfold daysF;rw[if_pos (by omega)]
  have q:=decide_eq_true m1
  have F:=F5 q1 q2 q dt df
  refine sb [.tmp 4] (fn:=Tryz.f229) Tryz.func229 ?_
  intro Q hQ
  refine wk F ?_
  refine ee hQ F ?_
  exact Fin.same (.int _ _) ⟨by rw[e],rfl⟩
 have q3:=decide_eq_false m1
 by_cases m2:m>12
 ·have e:daysF y m=0:=by unfold daysF;rw[if_pos (by omega)]
  have q:=decide_eq_true m2
  have F:=F6 q1 q2 q3 q dt df
  refine sb [.tmp 4] (fn:=Tryz.f229) Tryz.func229 ?_
  intro Q hQ
  refine wk F ?_
  refine ee hQ F ?_
  exact Fin.same (.int _ _) ⟨by rw[e],rfl⟩
 have q4:=decide_eq_false m2
 have hr:¬(y<1∨9999<y∨m<1∨12<m):=by omega
 by_cases m3:m=2
 ·subst m3
  have hL:=nr G y (by omega)
  have e:daysF y 2=if leapF y then 29 else 28:=by unfold daysF;rw[if_neg hr,if_pos rfl]
  cases hl:leapF y with
  |true=>
   rw[hl]at hL e
   have F:=F4 q1 q2 dt df
   refine sb [.tmp 4] (fn:=Tryz.f229) Tryz.func229 ?_
   intro Q hQ
   refine wk F ?_
   refine kq F (hL _) ?_
   refine ee hQ F ?_
   exact Fin.same (.int _ _) ⟨by rw[e];rfl,rfl⟩
  |false=>
   rw[hl]at hL e
   have F:=F4 q1 q2 dt df
   refine sb [.tmp 4] (fn:=Tryz.f229) Tryz.func229 ?_
   intro Q hQ
   refine wk F ?_
   refine kq F (hL _) ?_
   refine ee hQ F ?_
   exact Fin.same (.int _ _) ⟨by rw[e];rfl,rfl⟩
 ·have q5:(m==2)=false:=by simpa using m3
  have e:daysF y m=30+(m+m/8)%2:=by
   have hm:m=1∨m=3∨m=4∨m=5∨m=6∨m=7∨m=8∨m=9∨m=10∨m=11∨m=12:=by omega
   rcases hm with rfl|rfl|rfl|rfl|rfl|rfl|rfl|rfl|rfl|rfl|rfl<;>(unfold daysF;rw[if_neg hr];rfl)
  have F:=F9 q1 q2 q3 q4 q5 dt df @fE @bx
  refine sb [.tmp 4] (fn:=Tryz.f229) Tryz.func229 ?_
  intro Q hQ
  refine wk F ?_
  refine ee hQ F ?_
  exact Fin.same (.int _ _) ⟨by rw[e],rfl⟩
theorem nt(x:Dt):okD x=((decide (1≤x.d)&&decide (x.d≤daysF x.y x.m))&&((decide (0≤x.h)&&decide (x.h≤23))&&((decide (0≤x.i)&&decide (x.i≤59))&&(decide (0≤x.s)&&decide (x.s≤59))))):=by
 unfold okD;simp only[Bool.and_assoc]
theorem mg(x:Dt)(h:Heap):Sat (CT G) 225 [x.av] h (fun r h'=>r=.int .i64 (if okD x then 0 else 40)∧h'=h):=by
 have hD:=ns G x.y x.m
 have hW1:=bO G x.d 1 (daysF x.y x.m)
 have hW2:=bO G x.h 0 23
 have hW3:=bO G x.i 0 59
 have hW4:=bO G x.s 0 59
 rw[nt]
 generalize (decide (1≤x.d)&&decide (x.d≤daysF x.y x.m))=b1 at*
 generalize (decide (0≤x.h)&&decide (x.h≤23))=b2 at*
 generalize (decide (0≤x.i)&&decide (x.i≤59))=b3 at*
 generalize (decide (0≤x.s)&&decide (x.s≤59))=b4 at*
 generalize daysF x.y x.m=dd at*
 obtain⟨y,m,d,hh,i,s⟩:=x
 rw[Dt.av_eq]
 simp only[]at*
 cases b1 with
 |false=>
  refine sb [.tmp 2] (fn:=Tryz.f225) Tryz.func225 ?_
  intro Q hQ
  refine wk trivial ?_
  refine aa (hD _) ?_
  try refine sq trivial ?_
  refine wk trivial ?_
  refine aa (hW1 _) ?_
  try refine sq trivial ?_
  refine wk trivial ?_
  refine ee hQ trivial ?_
  exact Fin.plain (.int _ _) ⟨rfl,rfl⟩
 |true=>
  cases b2 with
  |false=>
   refine sb [.tmp 2] (fn:=Tryz.f225) Tryz.func225 ?_
   intro Q hQ
   refine wk trivial ?_
   refine aa (hD _) ?_
   try refine sq trivial ?_
   refine wk trivial ?_
   refine aa (hW1 _) ?_
   try refine sq trivial ?_
   refine wk trivial ?_
   refine aa (hW2 _) ?_
   try refine sq trivial ?_
   refine wk trivial ?_
   refine ee hQ trivial ?_
   exact Fin.plain (.int _ _) ⟨rfl,rfl⟩
  |true=>
   cases b3 with
   |false=>
    refine sb [.tmp 2] (fn:=Tryz.f225) Tryz.func225 ?_
    intro Q hQ
    refine wk trivial ?_
    refine aa (hD _) ?_
    try refine sq trivial ?_
    refine wk trivial ?_
    refine aa (hW1 _) ?_
    try refine sq trivial ?_
    refine wk trivial ?_
    refine aa (hW2 _) ?_
    try refine sq trivial ?_
    refine wk trivial ?_
    refine aa (hW3 _) ?_
    try refine sq trivial ?_
    refine wk trivial ?_
    refine ee hQ trivial ?_
    exact Fin.plain (.int _ _) ⟨rfl,rfl⟩
   |true=>
    cases b4<;>(
     refine sb [.tmp 2] (fn:=Tryz.f225) Tryz.func225 ?_
     intro Q hQ
     refine wk trivial ?_
     refine aa (hD _) ?_
     try refine sq trivial ?_
     refine wk trivial ?_
     refine aa (hW1 _) ?_
     try refine sq trivial ?_
     refine wk trivial ?_
     refine aa (hW2 _) ?_
     try refine sq trivial ?_
     refine wk trivial ?_
     refine aa (hW3 _) ?_
     try refine sq trivial ?_
     refine wk trivial ?_
     refine aa (hW4 _) ?_
     try refine sq trivial ?_
     refine wk trivial ?_
     refine ee hQ trivial ?_
     exact Fin.plain (.int _ _) ⟨rfl,rfl⟩)
theorem fW(y m:Int):0≤daysF y m∧daysF y m≤31∧(1≤daysF y m→1≤y∧y≤9999∧1≤m∧m≤12):=by
 unfold daysF
 split
 ·omega
 ·split
  ·split<;>omega
  ·split<;>omega
theorem jM{x:Dt}(h:okD x=true):1≤x.y∧x.y≤9999∧1≤x.m∧x.m≤12∧1≤x.d∧x.d≤31∧0≤x.h∧x.h≤23∧0≤x.i∧x.i≤59∧0≤x.s∧x.s≤59:=by
 unfold okD at h
 simp only[Bool.and_eq_true,decide_eq_true_eq]at h
 have:=fW x.y x.m
 omega
theorem nu(x:Dt)(h1:1≤x.y∧x.y≤9999)(h2:1≤x.m∧x.m≤12)(h3:1≤x.d∧x.d≤31)(h:Heap):Sat (CT G) 226 [x.av] h (fun r h'=>r=.int .i64 (dayP x.y x.m x.d)∧h'=h):=by
 obtain⟨y,m,d,hh,i,s⟩:=x
 rw[Dt.av_eq]
 simp only[]at*
 obtain⟨y1,y2⟩:=h1
 obtain⟨m1,m2⟩:=h2
 obtain⟨d1,d2⟩:=h3
 unfold dayP dayM
 by_cases c:m<3
 ·have q:decide (m-3<0)=true:=by simp;omega
  have e9:m-3+12=m+9:=by omega
  rw[if_pos c]
  have F:=F3 q @fE @bx
  skip
  refine sb [.tmp 2] (fn:=Tryz.f226) Tryz.func226 ?_
  intro Q hQ
  refine wn F ?_
  refine jL (by decide+kernel) (qY G) ?_
  refine sq F ?_
  refine wn F ?_
  skip
  refine ee hQ F ?_
  rw[e9]
  exact Fin.plain (.int _ _) ⟨rfl,rfl⟩
 ·have q:decide (m-3<0)=false:=by simp;omega
  rw[if_neg c]
  have F:=F3 q @fE @bx
  skip
  refine sb [.tmp 2] (fn:=Tryz.f226) Tryz.func226 ?_
  intro Q hQ
  refine wn F ?_
  refine jL (by decide+kernel) (qY G) ?_
  refine sq F ?_
  refine wn F ?_
  skip
  refine ee hQ F ?_
  exact Fin.plain (.int _ _) ⟨rfl,rfl⟩
theorem ic{y m d:Int}(h1:1≤y∧y≤9999)(h2:1≤m∧m≤12)(h3:1≤d∧d≤31): -800000≤dayP y m d∧dayP y m d≤3000000:=by
 unfold dayP dayM
 split<;>omega
theorem oT(x:Dt)(h:Heap):Sat (CT G) 221 [x.av] h (fun r h'=>r=.tup [.int .i64 (if okD x then momD x else 0),.int .i64 (if okD x then 0 else 40)]∧h'=h):=by
 have hC:=mg G x
 cases hk:okD x with
 |false=>
  rw[hk]at hC
  obtain⟨y,m,d,hh,i,s⟩:=x
  simp only[Dt.av_eq]at*
  refine sb [.tmp 2,.tmp 3] (fn:=Tryz.f221) Tryz.func221 ?_
  intro Q hQ
  refine wk trivial ?_
  refine kq trivial (hC _) ?_
  refine ee hQ trivial ?_
  exact Fin.plain (.tup _ (fun x hx=>by simp only[List.mem_cons,List.not_mem_nil,or_false]at hx;rcases hx with rfl|rfl<;>exact .int _ _)) ⟨rfl,rfl⟩
 |true=>
  rw[hk]at hC
  obtain⟨k1,k2,k3,k4,k5,k6,k7,k8,k9,k10,k11,k12⟩:=jM hk
  have hD:=nu G x ⟨k1,k2⟩ ⟨k3,k4⟩ ⟨k5,k6⟩
  have hb:=ic ⟨k1,k2⟩ ⟨k3,k4⟩ ⟨k5,k6⟩
  unfold momD
  obtain⟨y,m,d,hh,i,s⟩:=x
  simp only[Dt.av_eq]at*
  generalize dayP y m d=dd at*
  refine sb [.tmp 2,.tmp 3] (fn:=Tryz.f221) Tryz.func221 ?_
  intro Q hQ
  refine wk trivial ?_
  refine kq trivial (hC _) ?_
  refine aa (hD _) ?_
  try refine sq trivial ?_
  refine wk trivial ?_
  refine ee hQ trivial ?_
  exact Fin.plain (.tup _ (fun x hx=>by simp only[List.mem_cons,List.not_mem_nil,or_false]at hx;rcases hx with rfl|rfl<;>exact .int _ _)) ⟨rfl,rfl⟩
theorem jN{s s':Bs}{b b' c:Bool}{z:Int}(e:(Rdr.mk s b).off c=(z,⟨s',b'⟩))(hs:s.length≤1073741824){H:Heap}{p:Nat}(hg:getRow H p 0=some (188,2,[.agg [.str s,.bool b]])):
  Sat (CT G) 211 [.hp p 0 0 0,.bool c] H (fun r h'=>(r=.int .i64 z∧h'=H.set p (dR s' b'))):=by
 have hp:=bK hg
 have hgs:∀s b,getRow (H.set p (dR s b)) p 0=some (188,2,[.agg [.str s,.bool b]]):=fun s b=>by rw[j7 _ _ _ _ _ hp];rfl
 rcases e1:(Rdr.mk s b).sign [43,45]with⟨sg,s1,b1⟩
 rcases e2:(Rdr.mk s1 b1).digits 2 with⟨hh,s2,b2⟩
 rcases e3:(Rdr.mk s2 b2).sign [58]with⟨x3,s3,b3⟩
 have l1:s1.length≤s.length:=by
  have:=Rdr.sign_le (r:=⟨s,b⟩) (l:=[43,45]);rw[e1]at this;exact this
 have l2:s2.length≤s1.length:=by
  have:=Rdr.digits_le (r:=⟨s1,b1⟩) (w:=2);rw[e2]at this;exact this
 have l3:s3.length≤s2.length:=by
  have:=Rdr.sign_le (r:=⟨s2,b2⟩) (l:=[58]);rw[e3]at this;exact this
 have hb2:=aR e2
 have end_:∀(s4:Bs) (b4:Bool) (m:Int),(if c=true then(Rdr.mk s3 b3).digits 2 else(Rdr.mk s2 b2).digits 2)=(m,⟨s4,b4⟩)→z=(if sg=45 then -(3600*hh+60*m)else 3600*hh+60*m)∧s'=s4∧b'=(b4||(decide (hh>23)||decide (m>59))):=by
  intro s4 b4 m hm
  unfold Rdr.off at e
  simp only[e1,e2,e3]at e
  cases c with
  |true=>simp only[if_true]at hm e;rw[hm]at e;cases e;exact⟨rfl,rfl,rfl⟩
  |false=>simp only[Bool.false_eq_true,if_false]at hm e;rw[hm]at e;cases e;exact⟨rfl,rfl,rfl⟩
 have fin:∀x:Int,Fin H (H.set p (dR s' b')) (fun r h'=>r=.int .i64 x∧h'=H.set p (dR s' b')) (.int .i64 x):=fun x=>aM (fun _=>.int _ _)
 have S1:=cH G e1 hg
 have S2:=aL G e2 (by omega) (by omega) (hgs s1 b1)
 have S3:=cH G e3 (hgs s2 b2)
 rw[List.set_set]at S2 S3
 have body:∀(s4:Bs) (b4:Bool) (m:Int),(if c=true then(Rdr.mk s3 b3).digits 2 else(Rdr.mk s2 b2).digits 2)=(m,⟨s4,b4⟩)→0≤m→m<100→
   (∀s5 b5,s5=(if c=true then s3 else s2)→b5=(if c=true then b3 else b2)→Sat (CT G) 197 [.hp p 0 0 0,.int .i64 2] (H.set p (dR s5 b5)) (fun r h'=>r=.int .i64 m∧h'=H.set p (dR s4 b4)))→
   Sat (CT G) 211 [.hp p 0 0 0,.bool c] H (fun r h'=>(r=.int .i64 z∧h'=H.set p (dR s' b'))):=by
  intro s4 b4 m hm m0 m1 S4
  obtain⟨rfl,rfl,hb'⟩:=end_ s4 b4 m hm
  clear end_ hm
  have h10:(10:Int)^2=100:=rfl
  rw[h10]at hb2
  generalize q1:decide (hh>23)=d1 at*
  generalize q2:decide (m>59)=d2 at*
  have hw:=hgs s' b4
  have h3:b4=true∨(b4=false∧d1=true)∨(b4=false∧d1=false):=by cases b4<;>cases d1<;>simp
  by_cases h45:sg=45
  ·rw[if_pos h45]at*
   have q4:(sg==45)=true:=by simp[h45]
   rcases h3 with rfl| ⟨rfl,rfl⟩| ⟨rfl,rfl⟩<;>cases c<;>(
    simp only[Bool.true_or,Bool.false_or]at hb'
    subst hb'
    have F:=F6 hg q1 q2 q4 hw (@List.set_set Blk)
    refine sb [.tmp 4] (fn:=Tryz.f211) Tryz.func211 ?_
    intro Q hQ
    refine wk F ?_
    refine kq F (S1) ?_
    refine kq F (S2) ?_
    try refine kq F (S3) ?_
    refine kq F (S4 _ _ rfl rfl) ?_
    refine ee hQ F ?_
    rw[Int.zero_sub]
    exact fin _)
  ·rw[if_neg h45]at*
   have q4:(sg==45)=false:=by simp[h45]
   rcases h3 with rfl| ⟨rfl,rfl⟩| ⟨rfl,rfl⟩<;>cases c<;>(
    simp only[Bool.true_or,Bool.false_or]at hb'
    subst hb'
    have F:=F6 hg q1 q2 q4 hw (@List.set_set Blk)
    refine sb [.tmp 4] (fn:=Tryz.f211) Tryz.func211 ?_
    intro Q hQ
    refine wk F ?_
    refine kq F (S1) ?_
    refine kq F (S2) ?_
    try refine kq F (S3) ?_
    refine kq F (S4 _ _ rfl rfl) ?_
    refine ee hQ F ?_
    exact fin _)
 cases c with
 |true=>
  rcases e4:(Rdr.mk s3 b3).digits 2 with⟨m,s4,b4⟩
  have hb:=aR e4
  have S4:=aL G e4 (by omega) (by omega) (hgs s3 b3)
  rw[List.set_set]at S4
  exact body s4 b4 m e4 hb.1 hb.2 (fun s5 b5 h5 h6=>by rw[h5,h6];exact S4)
 |false=>
  rcases e4:(Rdr.mk s2 b2).digits 2 with⟨m,s4,b4⟩
  have hb:=aR e4
  have S4:=aL G e4 (by omega) (by omega) (hgs s2 b2)
  rw[List.set_set]at S4
  exact body s4 b4 m e4 hb.1 hb.2 (fun s5 b5 h5 h6=>by rw[h5,h6];exact S4)
theorem nv{s s':Bs}{b b':Bool}{z:Int}(e:(Rdr.mk s b).zone=(z,⟨s',b'⟩))(hs:s.length≤1073741824){H:Heap}{p:Nat}(hg:getRow H p 0=some (188,2,[.agg [.str s,.bool b]])):
  Sat (CT G) 201 [.hp p 0 0 0] H (fun r h'=>(r=.int .i64 z∧h'=H.set p (dR s' b'))):=by
 have hp:=bK hg
 unfold Rdr.zone at e
 by_cases h1:s=[90]
 ·subst h1
  rw[if_pos (.inl rfl)]at e
  cases e
  have z:(([90]:Bs)==[90])=true:=rfl
  have F:=F2 hg z
  refine sb [.tmp 2] (fn:=Tryz.f201) Tryz.func201 ?_
  intro Q hQ
  refine wk F ?_
  refine ee hQ F ?_
  exact aM (fun _=>.int _ _)
 ·have q1:(s==[90])=false:=by simpa using h1
  by_cases h2:s=[122]
  ·subst h2
   rw[if_pos (.inr rfl)]at e
   cases e
   have z:(([122]:Bs)==[122])=true:=rfl
   have F:=F3 hg q1 z
   refine sb [.tmp 2] (fn:=Tryz.f201) Tryz.func201 ?_
   intro Q hQ
   refine wk F ?_
   refine ee hQ F ?_
   exact aM (fun _=>.int _ _)
  ·have q2:(s==[122])=false:=by simpa using h2
   rw[if_neg (by simp[h1,h2])]at e
   have F:=F3 hg q1 q2
   refine sb [.tmp 2] (fn:=Tryz.f201) Tryz.func201 ?_
   intro Q hQ
   refine wk F ?_
   refine kq F (jN G e hs hg) ?_
   refine ee hQ F ?_
   exact aM (fun _=>.int _ _)
theorem Rdr.off_bd{r:Rdr}{c:Bool}: -400000≤(r.off c).1∧(r.off c).1≤400000:=by
 have h10:(10:Int)^2=100:=rfl
 have k:∀q:Rdr,0≤(q.digits 2).1∧(q.digits 2).1<100:=fun q=>by
  have:=aR (r:=q) (w:=2) (n:=(q.digits 2).1) (r':=(q.digits 2).2) rfl
  rw[h10]at this
  exact this
 unfold Rdr.off
 simp only[]
 have a:=k (r.sign [43,45]).2
 cases c
 ·have b:=k ((r.sign [43,45]).2.digits 2).2
  simp only[Bool.false_eq_true,if_false]
  split<;>omega
 ·have b:=k ((((r.sign [43,45]).2.digits 2).2.sign [58]).2)
  simp only[if_true]
  split<;>omega
theorem Rdr.zone_bd{r:Rdr}: -400000≤(r.zone).1∧(r.zone).1≤400000:=by
 unfold Rdr.zone
 split
 ·omega
 ·exact Rdr.off_bd
theorem lg{x:Dt}(h:okD x=true): -100000000000≤momD x∧momD x≤300000000000:=by
 obtain⟨k1,k2,k3,k4,k5,k6,k7,k8,k9,k10,k11,k12⟩:=jM h
 have hb:=ic ⟨k1,k2⟩ ⟨k3,k4⟩ ⟨k5,k6⟩
 unfold momD
 omega
theorem iM{s:Bs}{b:Bool}(x:Dt)(z:Int)(hz: -400000≤z∧z≤400000){H:Heap}{p:Nat}(hg:getRow H p 0=some (188,2,[.agg [.str s,.bool b]])):
  Sat (CT G) 200 [.hp p 0 0 0,x.av,.int .i64 z] H (fun r h'=>r=.tup [.int .i64 (((Rdr.mk s b).told x z).getD 0),.int .i64 (if ((Rdr.mk s b).told x z).isSome then 0 else 40)]∧h'=H):=by
 have hp:=bK hg
 have hgj:∀j,getRow (H++j) p 0=some (188,2,[.agg [.str s,.bool b]]):=fun j=>by rw[fb _ hp];exact hg
 have hM:=oT G x
 have clo:∀(N:Nat) (a c:Int),Clo N (.tup [.int .i64 a,.int .i64 c]):=fun N a c=>.tup _ (fun x hx=>by simp only[List.mem_cons,List.not_mem_nil,or_false]at hx;rcases hx with rfl|rfl<;>exact .int _ _)
 unfold Rdr.told tellD
 simp only[]
 cases b with
 |true=>
  obtain⟨y,m,d,hh,i,c⟩:=x
  simp only[Dt.av_eq,Bool.true_or,if_true]at*
  have F:=hgj
  refine sb [.tmp 6,.tmp 7] (fn:=Tryz.f200) Tryz.func200 ?_
  intro Q hQ
  refine wk F ?_
  refine kq F (hM _) ?_
  refine ee hQ F ?_
  exact Fin.plain (clo _ _ _) ⟨rfl,rfl⟩
 |false=>
  by_cases h0:s=[]
  rotate_left
  ·have q0:(s==([]:Bs))=false:=by simpa using h0
   have e0:decide (s≠ [])=true:=by simpa using h0
   rw[e0]
   obtain⟨y,m,d,hh,i,c⟩:=x
   simp only[Dt.av_eq,Bool.or_true,if_true]at*
   have F:=F2 hgj q0
   refine sb [.tmp 6,.tmp 7] (fn:=Tryz.f200) Tryz.func200 ?_
   intro Q hQ
   refine wk F ?_
   refine kq F (hM _) ?_
   refine ee hQ F ?_
   exact Fin.plain (clo _ _ _) ⟨rfl,rfl⟩
  subst h0
  have q0:(([]:Bs)==[])=true:=rfl
  have e0:decide (([]:Bs)≠ [])=false:=rfl
  rw[e0]
  cases hk:okD x with
  |false=>
   rw[hk]at hM
   obtain⟨y,m,d,hh,i,c⟩:=x
   simp only[Dt.av_eq]at*
   have F:=F2 hgj q0
   refine sb [.tmp 6,.tmp 7] (fn:=Tryz.f200) Tryz.func200 ?_
   intro Q hQ
   refine wk F ?_
   refine kq F (hM _) ?_
   refine ee hQ F ?_
   exact Fin.plain (clo _ _ _) ⟨rfl,rfl⟩
  |true=>
   rw[hk]at hM
   have hb:=lg hk
   have hW:=bO G (momD x-z) (-62135596800) 253402300799
   rw[show(decide (-62135596800≤momD x-z)&&decide (momD x-z≤253402300799))=inM (momD x-z)from rfl]at hW
   generalize momD x=n at*
   cases hi:inM (n-z)with
   |false=>
    rw[hi]at hW
    obtain⟨y,m,d,hh,i,c⟩:=x
    simp only[Dt.av_eq]at*
    have F:=F2 hgj q0
    refine sb [.tmp 6,.tmp 7] (fn:=Tryz.f200) Tryz.func200 ?_
    intro Q hQ
    refine wk F ?_
    refine kq F (hM _) ?_
    refine kq F (hW _) ?_
    refine ee hQ F ?_
    exact Fin.plain (clo _ _ _) ⟨rfl,rfl⟩
   |true=>
    rw[hi]at hW
    obtain⟨y,m,d,hh,i,c⟩:=x
    simp only[Dt.av_eq]at*
    have F:=F2 hgj q0
    refine sb [.tmp 6,.tmp 7] (fn:=Tryz.f200) Tryz.func200 ?_
    intro Q hQ
    refine wk F ?_
    refine kq F (hM _) ?_
    refine kq F (hW _) ?_
    refine ee hQ F ?_
    exact Fin.plain (clo _ _ _) ⟨rfl,rfl⟩
end Go.Av
namespace Go.Av
open Go Go.Proofs Go.RowKit
attribute [local irreducible] WP WPl WPix Sat
variable (G:Nat→Option (List AVal))
theorem nw(y:Int)(hy:0≤y)(h:Heap):Sat (CT G) 139 [.int .i64 y] h (fun r h'=>r=.bool (leapF y)∧h'=h):=by
 unfold leapF
 by_cases a:y%4=0
 ·have a1:(y%4==0)=true:=by simp[a]
  by_cases b:y%100=0
  ·have b1:(y%100 !=0)=false:=by simp[b]
   have F:=F4 a1 b1 @bx hy
   refine sb [.tmp 2] (fn:=Tryz.f139) Tryz.func139 ?_
   intro Q hQ
   refine wk F ?_
   refine ee hQ F ?_
   exact Fin.same (.bool _) ⟨by simp[a,b];rfl,rfl⟩
  ·have b1:(y%100 !=0)=true:=by simp[b]
   have F:=F4 a1 b1 @bx hy
   refine sb [.tmp 2] (fn:=Tryz.f139) Tryz.func139 ?_
   intro Q hQ
   refine wk F ?_
   refine ee hQ F ?_
   exact Fin.same (.bool _) ⟨by simp[a,b],rfl⟩
 ·have a1:(y%4==0)=false:=by simp[a]
  have c1:(y%400==0)=false:=by simp;omega
  have F:=F4 a1 c1 @bx hy
  refine sb [.tmp 2] (fn:=Tryz.f139) Tryz.func139 ?_
  intro Q hQ
  refine wk F ?_
  refine ee hQ F ?_
  exact Fin.same (.bool _) ⟨by simp[a],rfl⟩
theorem iN(y m:Int)(h:Heap):Sat (CT G) 103 [.int .i64 y,.int .i64 m] h (fun r h'=>r=.int .i64 (daysF y m)∧h'=h):=by
 by_cases y1:y<1
 ·have e:daysF y m=0:=by unfold daysF;rw[if_pos (by omega)]
  have q:=decide_eq_true y1
  have F:=q
  refine sb [.tmp 4] (fn:=Tryz.f103) Tryz.func103 ?_
  intro Q hQ
  refine wk F ?_
  refine ee hQ F ?_
  exact Fin.same (.int _ _) ⟨by rw[e],rfl⟩
 have q1:=decide_eq_false y1
 by_cases y2:y>9999
 ·have e:daysF y m=0:=by unfold daysF;rw[if_pos (by omega)]
  have q:=decide_eq_true y2
  have F:=F2 q1 q
  refine sb [.tmp 4] (fn:=Tryz.f103) Tryz.func103 ?_
  intro Q hQ
  refine wk F ?_
  refine ee hQ F ?_
  exact Fin.same (.int _ _) ⟨by rw[e],rfl⟩
 have q2:=decide_eq_false y2
 by_cases m3:m=2
 ·subst m3
  have hL:=nw G y (by omega)
  have e:daysF y 2=if leapF y then 29 else 28:=by unfold daysF;rw[if_neg (by omega),if_pos rfl]
  cases hl:leapF y with
  |true=>
   rw[hl]at hL e
   have F:=F2 q1 q2
   refine sb [.tmp 4] (fn:=Tryz.f103) Tryz.func103 ?_
   intro Q hQ
   refine wk F ?_
   refine kq F (hL _) ?_
   refine ee hQ F ?_
   exact Fin.same (.int _ _) ⟨by rw[e];rfl,rfl⟩
  |false=>
   rw[hl]at hL e
   have F:=F2 q1 q2
   refine sb [.tmp 4] (fn:=Tryz.f103) Tryz.func103 ?_
   intro Q hQ
   refine wk F ?_
   refine kq F (hL _) ?_
   refine ee hQ F ?_
   exact Fin.same (.int _ _) ⟨by rw[e];rfl,rfl⟩
 have q3:(m==2)=false:=by simpa using m3
 by_cases mo:m<1∨12<m
 ·have e:daysF y m=0:=by unfold daysF;rw[if_pos (by omega)]
  have k:∀c:Int,1≤c∧c≤12→(m==c)=false:=fun c hc=>by simp;omega
  have k1:=k 1 (by omega)
  have k3:=k 3 (by omega)
  have k4:=k 4 (by omega)
  have k5:=k 5 (by omega)
  have k6:=k 6 (by omega)
  have k7:=k 7 (by omega)
  have k8:=k 8 (by omega)
  have k9:=k 9 (by omega)
  have k10:=k 10 (by omega)
  have k11:=k 11 (by omega)
  have k12:=k 12 (by omega)
  have F:=F2 (F9 q1 q2 q3 k1 k3 k4 k5 k6 k7) (F5 k8 k9 k10 k11 k12)
  refine sb [.tmp 4] (fn:=Tryz.f103) Tryz.func103 ?_
  intro Q hQ
  refine wk F ?_
  refine ee hQ F ?_
  exact Fin.same (.int _ _) ⟨by rw[e],rfl⟩
 ·have e:daysF y m=if m=4∨m=6∨m=9∨m=11 then 30 else 31:=by unfold daysF;rw[if_neg (by omega),if_neg m3]
  rw[e]
  have hm:m=1∨m=3∨m=4∨m=5∨m=6∨m=7∨m=8∨m=9∨m=10∨m=11∨m=12:=by omega
  clear e mo m3 q3
  rcases hm with rfl|rfl|rfl|rfl|rfl|rfl|rfl|rfl|rfl|rfl|rfl
  all_goals (
   have F:=F2 q1 q2
   refine sb [.tmp 4] (fn:=Tryz.f103) Tryz.func103 ?_
   intro Q hQ
   refine wk F ?_
   refine ee hQ F ?_
   exact Fin.same (.int _ _) ⟨rfl,rfl⟩)
theorem kC(x:Dt)(h:Heap):Sat (CT G) 188 [x.av] h (fun r h'=>r=.bool (okD x)∧h'=h):=by
 have hD:=iN G x.y x.m
 rw[nt]
 obtain⟨y,m,d,hh,i,s⟩:=x
 rw[Dt.av_eq]
 simp only[]at*
 generalize daysF y m=dd at*
 by_cases c1:1≤d
 rotate_left
 ·have q:decide (d≥1)=false:=by simpa using c1
  have F:=q
  refine sb [.tmp 2] (fn:=Tryz.f188) Tryz.func188 ?_
  intro Q hQ
  refine wk F ?_
  refine ee hQ F ?_
  exact Fin.plain (.bool _) ⟨by simp[c1],rfl⟩
 have q1:decide (d≥1)=true:=by simpa using c1
 by_cases c2:d≤dd
 rotate_left
 ·have q:=decide_eq_false c2
  have F:=F2 q1 q
  refine sb [.tmp 2] (fn:=Tryz.f188) Tryz.func188 ?_
  intro Q hQ
  refine wk F ?_
  refine aa (hD _) ?_
  try refine sq F ?_
  refine wk F ?_
  refine ee hQ F ?_
  exact Fin.plain (.bool _) ⟨by simp[c2],rfl⟩
 have q2:=decide_eq_true c2
 by_cases c3:0≤hh
 rotate_left
 ·have q:decide (hh≥0)=false:=by simpa using c3
  have F:=F3 q1 q2 q
  refine sb [.tmp 2] (fn:=Tryz.f188) Tryz.func188 ?_
  intro Q hQ
  refine wk F ?_
  refine aa (hD _) ?_
  try refine sq F ?_
  refine wk F ?_
  refine ee hQ F ?_
  exact Fin.plain (.bool _) ⟨by simp[c3],rfl⟩
 have q3:decide (hh≥0)=true:=by simpa using c3
 by_cases c4:hh≤23
 rotate_left
 ·have q:=decide_eq_false c4
  have F:=F4 q1 q2 q3 q
  refine sb [.tmp 2] (fn:=Tryz.f188) Tryz.func188 ?_
  intro Q hQ
  refine wk F ?_
  refine aa (hD _) ?_
  try refine sq F ?_
  refine wk F ?_
  refine ee hQ F ?_
  exact Fin.plain (.bool _) ⟨by simp[c4],rfl⟩
 have q4:=decide_eq_true c4
 by_cases c5:0≤i
 rotate_left
 ·have q:decide (i≥0)=false:=by simpa using c5
  have F:=F5 q1 q2 q3 q4 q
  refine sb [.tmp 2] (fn:=Tryz.f188) Tryz.func188 ?_
  intro Q hQ
  refine wk F ?_
  refine aa (hD _) ?_
  try refine sq F ?_
  refine wk F ?_
  refine ee hQ F ?_
  exact Fin.plain (.bool _) ⟨by simp[c5],rfl⟩
 have q5:decide (i≥0)=true:=by simpa using c5
 by_cases c6:i≤59
 rotate_left
 ·have q:=decide_eq_false c6
  have F:=F6 q1 q2 q3 q4 q5 q
  refine sb [.tmp 2] (fn:=Tryz.f188) Tryz.func188 ?_
  intro Q hQ
  refine wk F ?_
  refine aa (hD _) ?_
  try refine sq F ?_
  refine wk F ?_
  refine ee hQ F ?_
  exact Fin.plain (.bool _) ⟨by simp[c6],rfl⟩
 have q6:=decide_eq_true c6
 by_cases c7:0≤s
 rotate_left
 ·have q:decide (s≥0)=false:=by simpa using c7
  have F:=F7 q1 q2 q3 q4 q5 q6 q
  refine sb [.tmp 2] (fn:=Tryz.f188) Tryz.func188 ?_
  intro Q hQ
  refine wk F ?_
  refine aa (hD _) ?_
  try refine sq F ?_
  refine wk F ?_
  refine ee hQ F ?_
  exact Fin.plain (.bool _) ⟨by simp[c7],rfl⟩
 have q7:decide (s≥0)=true:=by simpa using c7
 have F:=F7 q1 q2 q3 q4 q5 q6 q7
 refine sb [.tmp 2] (fn:=Tryz.f188) Tryz.func188 ?_
 intro Q hQ
 refine wk F ?_
 refine aa (hD _) ?_
 try refine sq F ?_
 refine wk F ?_
 refine ee hQ F ?_
 exact Fin.plain (.bool _) ⟨by simp[c1,c2,c3,c4,c5,c6,c7],rfl⟩
theorem mh(y:Int)(hy:1≤y∧y≤10000)(h:Heap):Sat (CT G) 102 [.int .i64 y] h (fun r h'=>r=.int .i64 (aheadF y)∧h'=h):=by
 unfold aheadF
 obtain⟨y1,y2⟩:=hy
 have F:=F2 @fE @bx
 refine sb [.tmp 2] (fn:=Tryz.f102) Tryz.func102 ?_
 intro Q hQ
 refine wk F ?_
 refine ee hQ F ?_
 exact Fin.same (.int _ _) ⟨rfl,rfl⟩
theorem nx{y:Int}(hy:1≤y∧y≤10000):0≤aheadF y∧aheadF y≤4000000:=by unfold aheadF;omega
theorem lh(y:Int):∀k:Nat,0≤sumD y k∧sumD y k≤31*k
 |0=>by simp[sumD]
 |k+1=>by
  have:=lh y k
  have:=fW y (k+1:Nat)
  unfold sumD
  omega
theorem jO(y d:Int)(k:Nat)(hy:1≤y∧y≤9999)(hk:k<12)(hd:1≤d∧d≤31)(h:Heap):Sat (CT G) 138 [.int .i64 y,.int .i64 ((k+1:Nat):Int),.int .i64 d] h (fun r h'=>r=.int .i64 (dayP y (k+1:Nat) d+719162)∧h'=h):=by
 rw[pC hy.1 hy.2 k hk]
 have hb:=nx (y:=y) (by omega)
 have hA:=mh G y (by omega)
 have hD:=fun m=>iN G y m
 generalize aheadF y=a at*
 refine sb [.tmp 6] (fn:=Tryz.f138) Tryz.func138 ?_
 intro Q hQ
 refine wk trivial ?_
 refine kq trivial (hA _) ?_
 refine lm (fun nL tL hL=>∃(j:Nat) (v:Int),k-j=nL∧h=hL∧tL 7=.int .i64 v∧tL 8=.int .i64 ((j+1:Nat):Int)∧j≤k∧v=a+d-1+sumD y j) ((fun(j:Nat) (v:Int)=>(k-j:Nat)) (0) (a+d-1)) ?_ ?_
 ·refine Wkn.refl ⟨0,a+d-1,rfl,ay,?_,?_,by omega,by simp[sumD]⟩
  all_goals first|exact zq trivial|rfl|omega|trivial|skip
 rintro _ s2 h' ⟨j,v,rfl,rfl,e7,e8,hj,hv⟩ K2 hK2
 simp only[ak,ao,Nat.reduceEqDiff, ↓reduceIte]at e7 e8
 have F:=F2 e7 e8
 have hs:=lh y j
 by_cases c1:j<k
 ·have q:decide (j+1<k+1)=true:=by simp;omega
  have hdl:=fW y (j+1:Nat)
  have e:sumD y (j+1)=sumD y j+daysF y (j+1:Nat):=rfl
  have hD1:=hD ((j+1:Nat):Int)
  generalize daysF y (j+1:Nat)=dd at*
  have F:=F2 F q
  try refine sq F ?_
  refine wk F ?_
  refine kq F (hD1 _) ?_
  refine hK2 _ _ _ (Wkn.refl ⟨j+1,v+dd,rfl,ay,?_,?_,by omega,by rw[e,hv];omega⟩) (by omega)
  all_goals first|exact zq F|rfl|omega|trivial|skip
 ·have q:decide (j+1<k+1)=false:=by simp;omega
  have ej:j=k:=by omega
  subst ej
  have F:=F2 F q
  try refine sq F ?_
  refine wk F ?_
  refine ee hQ F ?_
  have ev:a+d-1+sumD y j-719162+719162=v:=by omega
  rw[ev]
  exact Fin.same (.int _ _) ⟨rfl,rfl⟩
theorem iO(h:Heap):Sat (CT G) 101 [] h (fun r h'=>r=.int .i64 62135596800∧h'=h):=by
 have hd:=jO G 1970 1 0 (by omega) (by omega) (by omega)
 have e:dayP 1970 ((0+1:Nat):Int) 1+719162=719162:=by decide
 rw[e]at hd
 refine sb [.tmp 0] (fn:=Tryz.f101) Tryz.func101 ?_
 intro Q hQ
 refine wk trivial ?_
 refine kq trivial (hd _) ?_
 refine ee hQ trivial ?_
 exact Fin.same (.int _ _) ⟨rfl,rfl⟩
theorem iP(x:Dt)(hk:okD x=true)(h:Heap):Sat (CT G) 137 [x.av] h (fun r h'=>r=.int .i64 (momD x)∧h'=h):=by
 obtain⟨k1,k2,k3,k4,k5,k6,k7,k8,k9,k10,k11,k12⟩:=jM hk
 obtain⟨k,hkm,hk12⟩:∃k:Nat,x.m=((k+1:Nat):Int)∧k<12:=⟨(x.m-1).toNat,by omega,by omega⟩
 have hd:=jO G x.y x.d k (by omega) hk12 (by omega)
 have hb:=ic ⟨k1,k2⟩ ⟨k3,k4⟩ ⟨k5,k6⟩
 rw[← hkm]at hd
 have hz:=iO G
 unfold momD
 obtain⟨y,m,d,hh,i,s⟩:=x
 simp only[Dt.av_eq]at*
 generalize dayP y m d=dd at*
 have eq9:86400*(dd+719162)+3600*hh+60*i+s-62135596800=86400*dd+3600*hh+60*i+s:=by omega
 refine sb [.tmp 2] (fn:=Tryz.f137) Tryz.func137 ?_
 intro Q hQ
 refine wk trivial ?_
 refine aa (hd _) ?_
 try refine sq trivial ?_
 refine wk trivial ?_
 refine aa (hz _) ?_
 try refine sq trivial ?_
 refine wk trivial ?_
 refine ee hQ trivial ?_
 exact Fin.plain (.int _ _) ⟨by rw[eq9],rfl⟩
theorem ny(n:Int)(h:Heap):Sat (CT G) 65 [.int .i64 n] h (fun r h'=>r=.bool (inM n)∧h'=h):=by
 have hz:=iO G
 have hF:∀h,Sat (CT G) 99 [] h (fun r h'=>r=.int .i64 (-62135596800)∧h'=h):=fun h=>by
  refine sb [.tmp 0] (fn:=Tryz.f99) Tryz.func99 ?_
  intro Q hQ
  refine wk trivial ?_
  refine kq trivial (hz _) ?_
  refine ee hQ trivial ?_
  exact Fin.same (.int _ _) ⟨rfl,rfl⟩
 have hM:=iP G ⟨9999,12,31,23,59,59⟩ (by decide)
 have eM:momD ⟨9999,12,31,23,59,59⟩=253402300799:=by decide
 rw[eM,Dt.av_eq]at hM
 have hL:∀h,Sat (CT G) 100 [] h (fun r h'=>r=.int .i64 253402300799∧h'=h):=fun h=>by
  refine sb [.tmp 0] (fn:=Tryz.f100) Tryz.func100 ?_
  intro Q hQ
  refine wk trivial ?_
  refine kq trivial (hM _) ?_
  refine ee hQ trivial ?_
  exact Fin.same (.int _ _) ⟨rfl,rfl⟩
 unfold inM
 by_cases k: -62135596800≤n
 ·have k2:decide (n≥ -62135596800)=true:=by simpa using k
  have F:=k2
  refine sb [.tmp 2] (fn:=Tryz.f65) Tryz.func65 ?_
  intro Q hQ
  refine wk F ?_
  refine kq F (hF _) ?_
  refine kq F (hL _) ?_
  refine ee hQ F ?_
  exact Fin.same (.bool _) ⟨by simp[k],rfl⟩
 ·have k2:decide (n≥ -62135596800)=false:=by simpa using k
  have F:=k2
  refine sb [.tmp 2] (fn:=Tryz.f65) Tryz.func65 ?_
  intro Q hQ
  refine wk F ?_
  refine kq F (hF _) ?_
  refine ee hQ F ?_
  exact Fin.same (.bool _) ⟨by simp[k],rfl⟩
theorem ah(N:Nat)(a:Int)(c:Bool):Clo N (.tup [.int .i64 a,.bool c]):=.tup _ (fun x hx=>by simp only[List.mem_cons,List.not_mem_nil,or_false]at hx;rcases hx with rfl|rfl;exact .int _ _;exact .bool _)
theorem fk(x:Dt)(z:Int)(hz: -400000≤z∧z≤400000)(h:Heap):Sat (CT G) 160 [x.av,.int .i64 z] h (fun r h'=>r=.tup [.int .i64 ((tellD x z).getD 0),.bool (tellD x z).isSome]∧h'=h):=by
 have hC:=kC G x
 unfold tellD
 cases hk:okD x with
 |false=>
  rw[hk]at hC
  obtain⟨y,m,d,hh,i,s⟩:=x
  simp only[Dt.av_eq]at*
  refine sb [.tmp 4,.tmp 5] (fn:=Tryz.f160) Tryz.func160 ?_
  intro Q hQ
  refine wk trivial ?_
  refine kq trivial (hC _) ?_
  refine ee hQ trivial ?_
  exact Fin.plain (ah _ _ _) ⟨rfl,rfl⟩
 |true=>
  rw[hk]at hC
  have hM:=iP G x hk
  have hb:=lg hk
  have hY:=ny G (momD x-z)
  generalize momD x=n at*
  cases hi:inM (n-z)with
  |false=>
   rw[hi]at hY
   obtain⟨y,m,d,hh,i,s⟩:=x
   simp only[Dt.av_eq]at*
   refine sb [.tmp 4,.tmp 5] (fn:=Tryz.f160) Tryz.func160 ?_
   intro Q hQ
   refine wk trivial ?_
   refine kq trivial (hC _) ?_
   refine kq trivial (hM _) ?_
   refine kq trivial (hY _) ?_
   refine ee hQ trivial ?_
   exact Fin.plain (ah _ _ _) ⟨rfl,rfl⟩
  |true=>
   rw[hi]at hY
   obtain⟨y,m,d,hh,i,s⟩:=x
   simp only[Dt.av_eq]at*
   refine sb [.tmp 4,.tmp 5] (fn:=Tryz.f160) Tryz.func160 ?_
   intro Q hQ
   refine wk trivial ?_
   refine kq trivial (hC _) ?_
   refine kq trivial (hM _) ?_
   refine kq trivial (hY _) ?_
   refine kq trivial (hM _) ?_
   refine ee hQ trivial ?_
   exact Fin.plain (ah _ _ _) ⟨rfl,rfl⟩
end Go.Av
namespace Go.Av
open Go Go.Proofs Go.RowKit
attribute [local irreducible] WP WPl WPix Sat
variable (G:Nat→Option (List AVal))
theorem nz(s:Bs)(h:Heap):Sat (CT G) 203 [.str s] h (fun r h'=>r=.bool (decide (s∈weekL))∧h'=h):=by
 have hm:∀x:Bs,((s==x)=true∧s=x)∨((s==x)=false∧s≠x):=fun x=>by
  by_cases e:s=x
  ·exact .inl ⟨by simp[e],e⟩
  ·exact .inr ⟨by simp[e],e⟩
 by_cases hw:s∈weekL
 ·rw[decide_eq_true hw]
  have:s=[77,111,110,44]∨s=[84,117,101,44]∨s=[87,101,100,44]∨s=[84,104,117,44]∨s=[70,114,105,44]∨s=[83,97,116,44]∨s=[83,117,110,44]:=by simpa [weekL]using hw
  rcases this with e|e|e|e|e|e|e
  ·have F0:s=[77,111,110,44]:=e
   have a0:(s==([77,111,110,44]:Bs))=true:=by rw[F0];rfl
   have a1:(s==([84,117,101,44]:Bs))=false:=by rw[F0];rfl
   have a2:(s==([87,101,100,44]:Bs))=false:=by rw[F0];rfl
   have a3:(s==([84,104,117,44]:Bs))=false:=by rw[F0];rfl
   have a4:(s==([70,114,105,44]:Bs))=false:=by rw[F0];rfl
   have a5:(s==([83,97,116,44]:Bs))=false:=by rw[F0];rfl
   have a6:(s==([83,117,110,44]:Bs))=false:=by rw[F0];rfl
   have F:=F7 a0 a1 a2 a3 a4 a5 a6
   refine sb [.tmp 2] (fn:=Tryz.f203) Tryz.func203 ?_
   intro Q hQ
   refine wk F ?_
   refine ee hQ F ?_
   exact Fin.same (.bool _) ⟨rfl,rfl⟩
  ·have F0:s=[84,117,101,44]:=e
   have a0:(s==([77,111,110,44]:Bs))=false:=by rw[F0];rfl
   have a1:(s==([84,117,101,44]:Bs))=true:=by rw[F0];rfl
   have a2:(s==([87,101,100,44]:Bs))=false:=by rw[F0];rfl
   have a3:(s==([84,104,117,44]:Bs))=false:=by rw[F0];rfl
   have a4:(s==([70,114,105,44]:Bs))=false:=by rw[F0];rfl
   have a5:(s==([83,97,116,44]:Bs))=false:=by rw[F0];rfl
   have a6:(s==([83,117,110,44]:Bs))=false:=by rw[F0];rfl
   have F:=F7 a0 a1 a2 a3 a4 a5 a6
   refine sb [.tmp 2] (fn:=Tryz.f203) Tryz.func203 ?_
   intro Q hQ
   refine wk F ?_
   refine ee hQ F ?_
   exact Fin.same (.bool _) ⟨rfl,rfl⟩
  ·have F0:s=[87,101,100,44]:=e
   have a0:(s==([77,111,110,44]:Bs))=false:=by rw[F0];rfl
   have a1:(s==([84,117,101,44]:Bs))=false:=by rw[F0];rfl
   have a2:(s==([87,101,100,44]:Bs))=true:=by rw[F0];rfl
   have a3:(s==([84,104,117,44]:Bs))=false:=by rw[F0];rfl
   have a4:(s==([70,114,105,44]:Bs))=false:=by rw[F0];rfl
   have a5:(s==([83,97,116,44]:Bs))=false:=by rw[F0];rfl
   have a6:(s==([83,117,110,44]:Bs))=false:=by rw[F0];rfl
   have F:=F7 a0 a1 a2 a3 a4 a5 a6
   refine sb [.tmp 2] (fn:=Tryz.f203) Tryz.func203 ?_
   intro Q hQ
   refine wk F ?_
   refine ee hQ F ?_
   exact Fin.same (.bool _) ⟨rfl,rfl⟩
  ·have F0:s=[84,104,117,44]:=e
   have a0:(s==([77,111,110,44]:Bs))=false:=by rw[F0];rfl
   have a1:(s==([84,117,101,44]:Bs))=false:=by rw[F0];rfl
   have a2:(s==([87,101,100,44]:Bs))=false:=by rw[F0];rfl
   have a3:(s==([84,104,117,44]:Bs))=true:=by rw[F0];rfl
   have a4:(s==([70,114,105,44]:Bs))=false:=by rw[F0];rfl
   have a5:(s==([83,97,116,44]:Bs))=false:=by rw[F0];rfl
   have a6:(s==([83,117,110,44]:Bs))=false:=by rw[F0];rfl
   have F:=F7 a0 a1 a2 a3 a4 a5 a6
   refine sb [.tmp 2] (fn:=Tryz.f203) Tryz.func203 ?_
   intro Q hQ
   refine wk F ?_
   refine ee hQ F ?_
   exact Fin.same (.bool _) ⟨rfl,rfl⟩
  ·have F0:s=[70,114,105,44]:=e
   have a0:(s==([77,111,110,44]:Bs))=false:=by rw[F0];rfl
   have a1:(s==([84,117,101,44]:Bs))=false:=by rw[F0];rfl
   have a2:(s==([87,101,100,44]:Bs))=false:=by rw[F0];rfl
   have a3:(s==([84,104,117,44]:Bs))=false:=by rw[F0];rfl
   have a4:(s==([70,114,105,44]:Bs))=true:=by rw[F0];rfl
   have a5:(s==([83,97,116,44]:Bs))=false:=by rw[F0];rfl
   have a6:(s==([83,117,110,44]:Bs))=false:=by rw[F0];rfl
   have F:=F7 a0 a1 a2 a3 a4 a5 a6
   refine sb [.tmp 2] (fn:=Tryz.f203) Tryz.func203 ?_
   intro Q hQ
   refine wk F ?_
   refine ee hQ F ?_
   exact Fin.same (.bool _) ⟨rfl,rfl⟩
  ·have F0:s=[83,97,116,44]:=e
   have a0:(s==([77,111,110,44]:Bs))=false:=by rw[F0];rfl
   have a1:(s==([84,117,101,44]:Bs))=false:=by rw[F0];rfl
   have a2:(s==([87,101,100,44]:Bs))=false:=by rw[F0];rfl
   have a3:(s==([84,104,117,44]:Bs))=false:=by rw[F0];rfl
   have a4:(s==([70,114,105,44]:Bs))=false:=by rw[F0];rfl
   have a5:(s==([83,97,116,44]:Bs))=true:=by rw[F0];rfl
   have a6:(s==([83,117,110,44]:Bs))=false:=by rw[F0];rfl
   have F:=F7 a0 a1 a2 a3 a4 a5 a6
   refine sb [.tmp 2] (fn:=Tryz.f203) Tryz.func203 ?_
   intro Q hQ
   refine wk F ?_
   refine ee hQ F ?_
   exact Fin.same (.bool _) ⟨rfl,rfl⟩
  ·have F0:s=[83,117,110,44]:=e
   have a0:(s==([77,111,110,44]:Bs))=false:=by rw[F0];rfl
   have a1:(s==([84,117,101,44]:Bs))=false:=by rw[F0];rfl
   have a2:(s==([87,101,100,44]:Bs))=false:=by rw[F0];rfl
   have a3:(s==([84,104,117,44]:Bs))=false:=by rw[F0];rfl
   have a4:(s==([70,114,105,44]:Bs))=false:=by rw[F0];rfl
   have a5:(s==([83,97,116,44]:Bs))=false:=by rw[F0];rfl
   have a6:(s==([83,117,110,44]:Bs))=true:=by rw[F0];rfl
   have F:=F7 a0 a1 a2 a3 a4 a5 a6
   refine sb [.tmp 2] (fn:=Tryz.f203) Tryz.func203 ?_
   intro Q hQ
   refine wk F ?_
   refine ee hQ F ?_
   exact Fin.same (.bool _) ⟨rfl,rfl⟩
 ·rw[decide_eq_false hw]
  have:s≠ [77,111,110,44]∧s≠ [84,117,101,44]∧s≠ [87,101,100,44]∧s≠ [84,104,117,44]∧s≠ [70,114,105,44]∧s≠ [83,97,116,44]∧s≠ [83,117,110,44]:=by simpa [weekL]using hw
  obtain⟨a1,a2,a3,a4,a5,a6,a7⟩:=this
  have f:∀{x:Bs},s≠x→(s==x)=false:=fun {x} e=>by simpa using e
  have a1:=f a1
  have a2:=f a2
  have a3:=f a3
  have a4:=f a4
  have a5:=f a5
  have a6:=f a6
  have a7:=f a7
  have F:=F7 a1 a2 a3 a4 a5 a6 a7
  refine sb [.tmp 2] (fn:=Tryz.f203) Tryz.func203 ?_
  intro Q hQ
  refine wk F ?_
  refine ee hQ F ?_
  exact Fin.same (.bool _) ⟨rfl,rfl⟩
theorem mi(s:Bs)(h:Heap):Sat (CT G) 209 [.str s] h (fun r h'=>r=.tup [.int .i64 ((namF s).getD 0),.bool (namF s).isSome]∧h'=h):=by
 by_cases hw:s∈zonL
 ·have:s=[71,77,84]∨s=[85,84]∨s=[85,84,67]∨s=[90]∨s=[69,83,84]∨s=[69,68,84]∨s=[67,83,84]∨s=[67,68,84]∨s=[77,83,84]∨s=[77,68,84]∨s=[80,83,84]∨s=[80,68,84]:=by simpa [zonL]using hw
  rcases this with e|e|e|e|e|e|e|e|e|e|e|e
  ·have F0:s=[71,77,84]:=e
   have a0:(s==([71,77,84]:Bs))=true:=by rw[F0];rfl
   have a1:(s==([85,84]:Bs))=false:=by rw[F0];rfl
   have a2:(s==([85,84,67]:Bs))=false:=by rw[F0];rfl
   have a3:(s==([90]:Bs))=false:=by rw[F0];rfl
   have a4:(s==([69,68,84]:Bs))=false:=by rw[F0];rfl
   have a5:(s==([69,83,84]:Bs))=false:=by rw[F0];rfl
   have a6:(s==([67,68,84]:Bs))=false:=by rw[F0];rfl
   have a7:(s==([67,83,84]:Bs))=false:=by rw[F0];rfl
   have a8:(s==([77,68,84]:Bs))=false:=by rw[F0];rfl
   have a9:(s==([77,83,84]:Bs))=false:=by rw[F0];rfl
   have a10:(s==([80,68,84]:Bs))=false:=by rw[F0];rfl
   have a11:(s==([80,83,84]:Bs))=false:=by rw[F0];rfl
   have F:=F2 (F9 a0 a1 a2 a3 a4 a5 a6 a7 a8) (F3 a9 a10 a11)
   refine sb [.tmp 2,.tmp 3] (fn:=Tryz.f209) Tryz.func209 ?_
   intro Q hQ
   refine wk F ?_
   refine ee hQ F ?_
   exact Fin.same (ah _ _ _) ⟨by rw[F0];rfl,rfl⟩
  ·have F0:s=[85,84]:=e
   have a0:(s==([71,77,84]:Bs))=false:=by rw[F0];rfl
   have a1:(s==([85,84]:Bs))=true:=by rw[F0];rfl
   have a2:(s==([85,84,67]:Bs))=false:=by rw[F0];rfl
   have a3:(s==([90]:Bs))=false:=by rw[F0];rfl
   have a4:(s==([69,68,84]:Bs))=false:=by rw[F0];rfl
   have a5:(s==([69,83,84]:Bs))=false:=by rw[F0];rfl
   have a6:(s==([67,68,84]:Bs))=false:=by rw[F0];rfl
   have a7:(s==([67,83,84]:Bs))=false:=by rw[F0];rfl
   have a8:(s==([77,68,84]:Bs))=false:=by rw[F0];rfl
   have a9:(s==([77,83,84]:Bs))=false:=by rw[F0];rfl
   have a10:(s==([80,68,84]:Bs))=false:=by rw[F0];rfl
   have a11:(s==([80,83,84]:Bs))=false:=by rw[F0];rfl
   have F:=F2 (F9 a0 a1 a2 a3 a4 a5 a6 a7 a8) (F3 a9 a10 a11)
   refine sb [.tmp 2,.tmp 3] (fn:=Tryz.f209) Tryz.func209 ?_
   intro Q hQ
   refine wk F ?_
   refine ee hQ F ?_
   exact Fin.same (ah _ _ _) ⟨by rw[F0];rfl,rfl⟩
  ·have F0:s=[85,84,67]:=e
   have a0:(s==([71,77,84]:Bs))=false:=by rw[F0];rfl
   have a1:(s==([85,84]:Bs))=false:=by rw[F0];rfl
   have a2:(s==([85,84,67]:Bs))=true:=by rw[F0];rfl
   have a3:(s==([90]:Bs))=false:=by rw[F0];rfl
   have a4:(s==([69,68,84]:Bs))=false:=by rw[F0];rfl
   have a5:(s==([69,83,84]:Bs))=false:=by rw[F0];rfl
   have a6:(s==([67,68,84]:Bs))=false:=by rw[F0];rfl
   have a7:(s==([67,83,84]:Bs))=false:=by rw[F0];rfl
   have a8:(s==([77,68,84]:Bs))=false:=by rw[F0];rfl
   have a9:(s==([77,83,84]:Bs))=false:=by rw[F0];rfl
   have a10:(s==([80,68,84]:Bs))=false:=by rw[F0];rfl
   have a11:(s==([80,83,84]:Bs))=false:=by rw[F0];rfl
   have F:=F2 (F9 a0 a1 a2 a3 a4 a5 a6 a7 a8) (F3 a9 a10 a11)
   refine sb [.tmp 2,.tmp 3] (fn:=Tryz.f209) Tryz.func209 ?_
   intro Q hQ
   refine wk F ?_
   refine ee hQ F ?_
   exact Fin.same (ah _ _ _) ⟨by rw[F0];rfl,rfl⟩
  ·have F0:s=[90]:=e
   have a0:(s==([71,77,84]:Bs))=false:=by rw[F0];rfl
   have a1:(s==([85,84]:Bs))=false:=by rw[F0];rfl
   have a2:(s==([85,84,67]:Bs))=false:=by rw[F0];rfl
   have a3:(s==([90]:Bs))=true:=by rw[F0];rfl
   have a4:(s==([69,68,84]:Bs))=false:=by rw[F0];rfl
   have a5:(s==([69,83,84]:Bs))=false:=by rw[F0];rfl
   have a6:(s==([67,68,84]:Bs))=false:=by rw[F0];rfl
   have a7:(s==([67,83,84]:Bs))=false:=by rw[F0];rfl
   have a8:(s==([77,68,84]:Bs))=false:=by rw[F0];rfl
   have a9:(s==([77,83,84]:Bs))=false:=by rw[F0];rfl
   have a10:(s==([80,68,84]:Bs))=false:=by rw[F0];rfl
   have a11:(s==([80,83,84]:Bs))=false:=by rw[F0];rfl
   have F:=F2 (F9 a0 a1 a2 a3 a4 a5 a6 a7 a8) (F3 a9 a10 a11)
   refine sb [.tmp 2,.tmp 3] (fn:=Tryz.f209) Tryz.func209 ?_
   intro Q hQ
   refine wk F ?_
   refine ee hQ F ?_
   exact Fin.same (ah _ _ _) ⟨by rw[F0];rfl,rfl⟩
  ·have F0:s=[69,83,84]:=e
   have a0:(s==([71,77,84]:Bs))=false:=by rw[F0];rfl
   have a1:(s==([85,84]:Bs))=false:=by rw[F0];rfl
   have a2:(s==([85,84,67]:Bs))=false:=by rw[F0];rfl
   have a3:(s==([90]:Bs))=false:=by rw[F0];rfl
   have a4:(s==([69,68,84]:Bs))=false:=by rw[F0];rfl
   have a5:(s==([69,83,84]:Bs))=true:=by rw[F0];rfl
   have a6:(s==([67,68,84]:Bs))=false:=by rw[F0];rfl
   have a7:(s==([67,83,84]:Bs))=false:=by rw[F0];rfl
   have a8:(s==([77,68,84]:Bs))=false:=by rw[F0];rfl
   have a9:(s==([77,83,84]:Bs))=false:=by rw[F0];rfl
   have a10:(s==([80,68,84]:Bs))=false:=by rw[F0];rfl
   have a11:(s==([80,83,84]:Bs))=false:=by rw[F0];rfl
   have F:=F2 (F9 a0 a1 a2 a3 a4 a5 a6 a7 a8) (F3 a9 a10 a11)
   refine sb [.tmp 2,.tmp 3] (fn:=Tryz.f209) Tryz.func209 ?_
   intro Q hQ
   refine wk F ?_
   refine ee hQ F ?_
   exact Fin.same (ah _ _ _) ⟨by rw[F0];rfl,rfl⟩
  ·have F0:s=[69,68,84]:=e
   have a0:(s==([71,77,84]:Bs))=false:=by rw[F0];rfl
   have a1:(s==([85,84]:Bs))=false:=by rw[F0];rfl
   have a2:(s==([85,84,67]:Bs))=false:=by rw[F0];rfl
   have a3:(s==([90]:Bs))=false:=by rw[F0];rfl
   have a4:(s==([69,68,84]:Bs))=true:=by rw[F0];rfl
   have a5:(s==([69,83,84]:Bs))=false:=by rw[F0];rfl
   have a6:(s==([67,68,84]:Bs))=false:=by rw[F0];rfl
   have a7:(s==([67,83,84]:Bs))=false:=by rw[F0];rfl
   have a8:(s==([77,68,84]:Bs))=false:=by rw[F0];rfl
   have a9:(s==([77,83,84]:Bs))=false:=by rw[F0];rfl
   have a10:(s==([80,68,84]:Bs))=false:=by rw[F0];rfl
   have a11:(s==([80,83,84]:Bs))=false:=by rw[F0];rfl
   have F:=F2 (F9 a0 a1 a2 a3 a4 a5 a6 a7 a8) (F3 a9 a10 a11)
   refine sb [.tmp 2,.tmp 3] (fn:=Tryz.f209) Tryz.func209 ?_
   intro Q hQ
   refine wk F ?_
   refine ee hQ F ?_
   exact Fin.same (ah _ _ _) ⟨by rw[F0];rfl,rfl⟩
  ·have F0:s=[67,83,84]:=e
   have a0:(s==([71,77,84]:Bs))=false:=by rw[F0];rfl
   have a1:(s==([85,84]:Bs))=false:=by rw[F0];rfl
   have a2:(s==([85,84,67]:Bs))=false:=by rw[F0];rfl
   have a3:(s==([90]:Bs))=false:=by rw[F0];rfl
   have a4:(s==([69,68,84]:Bs))=false:=by rw[F0];rfl
   have a5:(s==([69,83,84]:Bs))=false:=by rw[F0];rfl
   have a6:(s==([67,68,84]:Bs))=false:=by rw[F0];rfl
   have a7:(s==([67,83,84]:Bs))=true:=by rw[F0];rfl
   have a8:(s==([77,68,84]:Bs))=false:=by rw[F0];rfl
   have a9:(s==([77,83,84]:Bs))=false:=by rw[F0];rfl
   have a10:(s==([80,68,84]:Bs))=false:=by rw[F0];rfl
   have a11:(s==([80,83,84]:Bs))=false:=by rw[F0];rfl
   have F:=F2 (F9 a0 a1 a2 a3 a4 a5 a6 a7 a8) (F3 a9 a10 a11)
   refine sb [.tmp 2,.tmp 3] (fn:=Tryz.f209) Tryz.func209 ?_
   intro Q hQ
   refine wk F ?_
   refine ee hQ F ?_
   exact Fin.same (ah _ _ _) ⟨by rw[F0];rfl,rfl⟩
  ·have F0:s=[67,68,84]:=e
   have a0:(s==([71,77,84]:Bs))=false:=by rw[F0];rfl
   have a1:(s==([85,84]:Bs))=false:=by rw[F0];rfl
   have a2:(s==([85,84,67]:Bs))=false:=by rw[F0];rfl
   have a3:(s==([90]:Bs))=false:=by rw[F0];rfl
   have a4:(s==([69,68,84]:Bs))=false:=by rw[F0];rfl
   have a5:(s==([69,83,84]:Bs))=false:=by rw[F0];rfl
   have a6:(s==([67,68,84]:Bs))=true:=by rw[F0];rfl
   have a7:(s==([67,83,84]:Bs))=false:=by rw[F0];rfl
   have a8:(s==([77,68,84]:Bs))=false:=by rw[F0];rfl
   have a9:(s==([77,83,84]:Bs))=false:=by rw[F0];rfl
   have a10:(s==([80,68,84]:Bs))=false:=by rw[F0];rfl
   have a11:(s==([80,83,84]:Bs))=false:=by rw[F0];rfl
   have F:=F2 (F9 a0 a1 a2 a3 a4 a5 a6 a7 a8) (F3 a9 a10 a11)
   refine sb [.tmp 2,.tmp 3] (fn:=Tryz.f209) Tryz.func209 ?_
   intro Q hQ
   refine wk F ?_
   refine ee hQ F ?_
   exact Fin.same (ah _ _ _) ⟨by rw[F0];rfl,rfl⟩
  ·have F0:s=[77,83,84]:=e
   have a0:(s==([71,77,84]:Bs))=false:=by rw[F0];rfl
   have a1:(s==([85,84]:Bs))=false:=by rw[F0];rfl
   have a2:(s==([85,84,67]:Bs))=false:=by rw[F0];rfl
   have a3:(s==([90]:Bs))=false:=by rw[F0];rfl
   have a4:(s==([69,68,84]:Bs))=false:=by rw[F0];rfl
   have a5:(s==([69,83,84]:Bs))=false:=by rw[F0];rfl
   have a6:(s==([67,68,84]:Bs))=false:=by rw[F0];rfl
   have a7:(s==([67,83,84]:Bs))=false:=by rw[F0];rfl
   have a8:(s==([77,68,84]:Bs))=false:=by rw[F0];rfl
   have a9:(s==([77,83,84]:Bs))=true:=by rw[F0];rfl
   have a10:(s==([80,68,84]:Bs))=false:=by rw[F0];rfl
   have a11:(s==([80,83,84]:Bs))=false:=by rw[F0];rfl
   have F:=F2 (F9 a0 a1 a2 a3 a4 a5 a6 a7 a8) (F3 a9 a10 a11)
   refine sb [.tmp 2,.tmp 3] (fn:=Tryz.f209) Tryz.func209 ?_
   intro Q hQ
   refine wk F ?_
   refine ee hQ F ?_
   exact Fin.same (ah _ _ _) ⟨by rw[F0];rfl,rfl⟩
  ·have F0:s=[77,68,84]:=e
   have a0:(s==([71,77,84]:Bs))=false:=by rw[F0];rfl
   have a1:(s==([85,84]:Bs))=false:=by rw[F0];rfl
   have a2:(s==([85,84,67]:Bs))=false:=by rw[F0];rfl
   have a3:(s==([90]:Bs))=false:=by rw[F0];rfl
   have a4:(s==([69,68,84]:Bs))=false:=by rw[F0];rfl
   have a5:(s==([69,83,84]:Bs))=false:=by rw[F0];rfl
   have a6:(s==([67,68,84]:Bs))=false:=by rw[F0];rfl
   have a7:(s==([67,83,84]:Bs))=false:=by rw[F0];rfl
   have a8:(s==([77,68,84]:Bs))=true:=by rw[F0];rfl
   have a9:(s==([77,83,84]:Bs))=false:=by rw[F0];rfl
   have a10:(s==([80,68,84]:Bs))=false:=by rw[F0];rfl
   have a11:(s==([80,83,84]:Bs))=false:=by rw[F0];rfl
   have F:=F2 (F9 a0 a1 a2 a3 a4 a5 a6 a7 a8) (F3 a9 a10 a11)
   refine sb [.tmp 2,.tmp 3] (fn:=Tryz.f209) Tryz.func209 ?_
   intro Q hQ
   refine wk F ?_
   refine ee hQ F ?_
   exact Fin.same (ah _ _ _) ⟨by rw[F0];rfl,rfl⟩
  ·have F0:s=[80,83,84]:=e
   have a0:(s==([71,77,84]:Bs))=false:=by rw[F0];rfl
   have a1:(s==([85,84]:Bs))=false:=by rw[F0];rfl
   have a2:(s==([85,84,67]:Bs))=false:=by rw[F0];rfl
   have a3:(s==([90]:Bs))=false:=by rw[F0];rfl
   have a4:(s==([69,68,84]:Bs))=false:=by rw[F0];rfl
   have a5:(s==([69,83,84]:Bs))=false:=by rw[F0];rfl
   have a6:(s==([67,68,84]:Bs))=false:=by rw[F0];rfl
   have a7:(s==([67,83,84]:Bs))=false:=by rw[F0];rfl
   have a8:(s==([77,68,84]:Bs))=false:=by rw[F0];rfl
   have a9:(s==([77,83,84]:Bs))=false:=by rw[F0];rfl
   have a10:(s==([80,68,84]:Bs))=false:=by rw[F0];rfl
   have a11:(s==([80,83,84]:Bs))=true:=by rw[F0];rfl
   have F:=F2 (F9 a0 a1 a2 a3 a4 a5 a6 a7 a8) (F3 a9 a10 a11)
   refine sb [.tmp 2,.tmp 3] (fn:=Tryz.f209) Tryz.func209 ?_
   intro Q hQ
   refine wk F ?_
   refine ee hQ F ?_
   exact Fin.same (ah _ _ _) ⟨by rw[F0];rfl,rfl⟩
  ·have F0:s=[80,68,84]:=e
   have a0:(s==([71,77,84]:Bs))=false:=by rw[F0];rfl
   have a1:(s==([85,84]:Bs))=false:=by rw[F0];rfl
   have a2:(s==([85,84,67]:Bs))=false:=by rw[F0];rfl
   have a3:(s==([90]:Bs))=false:=by rw[F0];rfl
   have a4:(s==([69,68,84]:Bs))=false:=by rw[F0];rfl
   have a5:(s==([69,83,84]:Bs))=false:=by rw[F0];rfl
   have a6:(s==([67,68,84]:Bs))=false:=by rw[F0];rfl
   have a7:(s==([67,83,84]:Bs))=false:=by rw[F0];rfl
   have a8:(s==([77,68,84]:Bs))=false:=by rw[F0];rfl
   have a9:(s==([77,83,84]:Bs))=false:=by rw[F0];rfl
   have a10:(s==([80,68,84]:Bs))=true:=by rw[F0];rfl
   have a11:(s==([80,83,84]:Bs))=false:=by rw[F0];rfl
   have F:=F2 (F9 a0 a1 a2 a3 a4 a5 a6 a7 a8) (F3 a9 a10 a11)
   refine sb [.tmp 2,.tmp 3] (fn:=Tryz.f209) Tryz.func209 ?_
   intro Q hQ
   refine wk F ?_
   refine ee hQ F ?_
   exact Fin.same (ah _ _ _) ⟨by rw[F0];rfl,rfl⟩
 ·have e:namF s=none:=by
   unfold namF
   have:zonL.findIdx? (fun x=>decide (x=s))=none:=by
    rw[List.findIdx?_eq_none_iff]
    intro x hx
    have:x≠s:=fun k=>hw (k▸hx)
    simpa using this
   rw[this]
  rw[e]
  have:s≠ [71,77,84]∧s≠ [85,84]∧s≠ [85,84,67]∧s≠ [90]∧s≠ [69,83,84]∧s≠ [69,68,84]∧s≠ [67,83,84]∧s≠ [67,68,84]∧s≠ [77,83,84]∧s≠ [77,68,84]∧s≠ [80,83,84]∧s≠ [80,68,84]:=by simpa [zonL]using hw
  obtain⟨a1,a2,a3,a4,a5,a6,a7,a8,a9,b1,b2,b3⟩:=this
  have f:∀{x:Bs},s≠x→(s==x)=false:=fun {x} e=>by simpa using e
  have a1:=f a1
  have a2:=f a2
  have a3:=f a3
  have a4:=f a4
  have a5:=f a5
  have a6:=f a6
  have a7:=f a7
  have a8:=f a8
  have a9:=f a9
  have b1:=f b1
  have b2:=f b2
  have b3:=f b3
  have F:=F2 (F9 a1 a2 a3 a4 a5 a6 a7 a8 a9) (F3 b1 b2 b3)
  refine sb [.tmp 2,.tmp 3] (fn:=Tryz.f209) Tryz.func209 ?_
  intro Q hQ
  refine wk F ?_
  refine ee hQ F ?_
  exact Fin.same (ah _ _ _) ⟨rfl,rfl⟩
end Go.Av
namespace Go.Av
open Go Go.Proofs Go.RowKit
attribute [local irreducible] WP WPl WPix Sat
variable (G:Nat→Option (List AVal))
theorem oU{s s':Bs}{b b':Bool}{n:Int}(e:(Rdr.mk s b).all=(n,⟨s',b'⟩))(hs:s.length≤9){H:Heap}{p:Nat}(hg:getRow H p 0=some (188,2,[.agg [.str s,.bool b]])):
  Sat (CT G) 205 [.hp p 0 0 0] H (fun r h'=>r=.int .i64 n∧h'=H.set p (dR s' b')):=by
 have hp:=bK hg
 have S:=aL G (w:=s.length) e hs (by omega) hg
 have F:=hg
 refine sb [.tmp 2] (fn:=Tryz.f205) Tryz.func205 ?_
 intro Q hQ
 refine wk F ?_
 refine kq F (S) ?_
 refine ee hQ F ?_
 exact aM (fun _=>.int _ _)
theorem oV{s s':Bs}{b b':Bool}{n:Int}(e:(Rdr.mk s b).off false=(n,⟨s',b'⟩))(hs:s.length≤1073741824){H:Heap}{p:Nat}(hg:getRow H p 0=some (188,2,[.agg [.str s,.bool b]])):
  Sat (CT G) 210 [.hp p 0 0 0] H (fun r h'=>r=.int .i64 n∧h'=H.set p (dR s' b')):=by
 have hp:=bK hg
 have S:=jN G e hs hg
 have F:=hg
 refine sb [.tmp 2] (fn:=Tryz.f210) Tryz.func210 ?_
 intro Q hQ
 refine wk F ?_
 refine kq F (S) ?_
 refine ee hQ F ?_
 exact aM (fun _=>.int _ _)
theorem nA{s s':Bs}{b b':Bool}{n:Int}(e:(Rdr.mk s b).year=(n,⟨s',b'⟩))(hs:s.length≤1073741824){H:Heap}{p:Nat}(hg:getRow H p 0=some (188,2,[.agg [.str s,.bool b]])):
  Sat (CT G) 207 [.hp p 0 0 0] H (fun r h'=>r=.int .i64 n∧h'=H.set p (dR s' b')):=by
 have hp:=bK hg
 unfold Rdr.year at e
 by_cases h2:s.length=2
 ·have q:((s.length:Int) !=2)=false:=by rw[h2];rfl
  rcases e1:(Rdr.mk s b).digits 2 with⟨m,s1,b1⟩
  have e:(if 50≤m then 1900+m else 2000+m,Rdr.mk s1 b1)=(n,⟨s',b'⟩):=by
   rw[← e];simp only[h2,if_true,e1]
  have hb:=aR e1
  have h10:(10:Int)^2=100:=rfl
  rw[h10]at hb
  have S:=aL G e1 (by omega) hs hg
  by_cases c:50≤m
  ·rw[if_pos c]at e
   cases e
   have d:decide (m≥50)=true:=decide_eq_true c
   have F:=F3 hg q d
   refine sb [.tmp 2] (fn:=Tryz.f207) Tryz.func207 ?_
   intro Q hQ
   refine wk F ?_
   refine kq F (S) ?_
   refine ee hQ F ?_
   exact aM (fun _=>.int _ _)
  ·rw[if_neg c]at e
   cases e
   have d:decide (m≥50)=false:=decide_eq_false c
   have F:=F3 hg q d
   refine sb [.tmp 2] (fn:=Tryz.f207) Tryz.func207 ?_
   intro Q hQ
   refine wk F ?_
   refine kq F (S) ?_
   refine ee hQ F ?_
   exact aM (fun _=>.int _ _)
 ·have q:((s.length:Int) !=2)=true:=by simp only[bne_iff_ne,ne_eq];omega
  have e:(Rdr.mk s b).digits 4=(n,⟨s',b'⟩):=by
   rw[← e];exact(if_neg h2).symm
  have S:=aL G e (by omega) hs hg
  have F:=F2 hg q
  refine sb [.tmp 2] (fn:=Tryz.f207) Tryz.func207 ?_
  intro Q hQ
  refine wk F ?_
  refine kq F (S) ?_
  refine ee hQ F ?_
  exact aM (fun _=>.int _ _)
end Go.Av
namespace Go.Av
open Go Go.Proofs Go.RowKit
attribute [local irreducible] WP WPl WPix Sat
variable (G:Nat→Option (List AVal))
theorem mj{s s':Bs}{b b':Bool}{n:Int}(e:(Rdr.mk s b).clock=(n,⟨s',b'⟩))(hs:s.length≤1073741824){H:Heap}{p:Nat}(hg:getRow H p 0=some (188,2,[.agg [.str s,.bool b]])):
  Sat (CT G) 208 [.hp p 0 0 0] H (fun r h'=>r=.int .i64 n∧h'=H.set p (dR s' b')):=by
 have hp:=bK hg
 have hgs:∀s b,getRow (H.set p (dR s b)) p 0=some (188,2,[.agg [.str s,.bool b]]):=fun s b=>by rw[j7 _ _ _ _ _ hp];rfl
 rcases e1:(Rdr.mk s b).digits 2 with⟨hh,s1,b1⟩
 rcases e2:(Rdr.mk s1 b1).sign [58]with⟨x2,s2,b2⟩
 rcases e3:(Rdr.mk s2 b2).digits 2 with⟨m,s3,b3⟩
 have l1:s1.length≤s.length:=by
  have:=Rdr.digits_le (r:=⟨s,b⟩) (w:=2);rw[e1]at this;exact this
 have l2:s2.length≤s1.length:=by
  have:=Rdr.sign_le (r:=⟨s1,b1⟩) (l:=[58]);rw[e2]at this;exact this
 have l3:s3.length≤s2.length:=by
  have:=Rdr.digits_le (r:=⟨s2,b2⟩) (w:=2);rw[e3]at this;exact this
 have hb1:=aR e1
 have hb3:=aR e3
 have h10:(10:Int)^2=100:=rfl
 rw[h10]at hb1 hb3
 have S1:=aL G e1 (by omega) hs hg
 have S2:=cH G e2 (hgs s1 b1)
 have S3:=aL G e3 (by omega) (by omega) (hgs s2 b2)
 rw[List.set_set]at S2 S3
 have fin:∀x:Int,Fin H (H.set p (dR s' b')) (fun r h'=>r=.int .i64 x∧h'=H.set p (dR s' b')) (.int .i64 x):=fun x=>aM (fun _=>.int _ _)
 by_cases h3:s3=[]
 ·have q0:(s3==([]:Bs))=true:=by simp[h3]
  have ec:((3600*hh+60*m+0:Int),Rdr.mk s3 (b3||(decide (hh>23)||(decide (m>59)||false))))=(n,⟨s',b'⟩):=by
   rw[← e];unfold Rdr.clock;simp only[e1,e2,e3];simp[h3]
  cases ec
  generalize q1:decide (hh>23)=d1 at*
  generalize q2:decide (m>59)=d2 at*
  have q3:decide ((0:Int)>59)=false:=rfl
  have dt:∀i:Decidable True, @decide True i=true:=fun i=>by simp
  have df:∀i:Decidable False, @decide False i=false:=fun i=>by simp
  have hw:=hgs s' b3
  cases b3<;>cases d1<;>cases d2<;>(
   have F:=F8 hg q0 q1 q2 dt df hw (@List.set_set Blk)
   refine sb [.tmp 2] (fn:=Tryz.f208) Tryz.func208 ?_
   intro Q hQ
   refine wk F ?_
   refine kq F (S1) ?_
   refine kq F (S2) ?_
   refine kq F (S3) ?_
   refine ee hQ F ?_
   exact fin _)
 ·have q0:(s3==([]:Bs))=false:=by simpa using h3
  rcases e4:(Rdr.mk s3 b3).sign [58]with⟨x4,s4,b4⟩
  rcases e5:(Rdr.mk s4 b4).digits 2 with⟨c,s5,b5⟩
  have l4:s4.length≤s3.length:=by
   have:=Rdr.sign_le (r:=⟨s3,b3⟩) (l:=[58]);rw[e4]at this;exact this
  have hb5:=aR e5
  rw[h10]at hb5
  have S4:=cH G e4 (hgs s3 b3)
  have S5:=aL G e5 (by omega) (by omega) (hgs s4 b4)
  rw[List.set_set]at S4 S5
  have ec:((3600*hh+60*m+c:Int),Rdr.mk s5 (b5||(decide (hh>23)||(decide (m>59)||decide (c>59)))))=(n,⟨s',b'⟩):=by
   rw[← e];unfold Rdr.clock;simp only[e1,e2,e3,if_neg h3,e4,e5]
  cases ec
  generalize q1:decide (hh>23)=d1 at*
  generalize q2:decide (m>59)=d2 at*
  generalize q3:decide (c>59)=d3 at*
  have hw0:=hgs s3 b3
  have hw:=hgs s' b5
  cases b5<;>cases d1<;>cases d2<;>cases d3<;>(
   have F:=F8 hg q0 q1 q2 q3 hw0 hw (@List.set_set Blk)
   refine sb [.tmp 2] (fn:=Tryz.f208) Tryz.func208 ?_
   intro Q hQ
   refine wk F ?_
   refine kq F (S1) ?_
   refine kq F (S2) ?_
   refine kq F (S3) ?_
   refine kq F (S4) ?_
   refine kq F (S5) ?_
   refine ee hQ F ?_
   exact fin _)
end Go.Av
namespace Go.Av
open Go Go.Proofs Go.RowKit
attribute [local irreducible] WP WPl WPix Sat
variable (G:Nat→Option (List AVal))
theorem nB(g:FuncId){s w s':Bs}{b b':Bool}{n:Int}{H:Heap}{p:Nat}(hg:getRow H p 0=some (188,2,[.agg [.str s,.bool b]]))
  (hF:Sat (CT G) g [.hp H.length 0 0 0] (H++[dR w false]) (fun r h'=>r=.int .i64 n∧h'=H++[dR s' b'])):
  Sat (CT G) 204 [.hp p 0 0 0,.str w,.fn (.func g) [] []] H (fun r h'=>r=.int .i64 n∧h'=H.set p (dR s (b||(b'||decide (s'≠ []))))):=by
 have hp:=bK hg
 have q:(s'==([]:Bs))=decide (s'=[]):=by rw[Bool.eq_iff_iff];simp
 have hx:decide (s'≠ [])= !decide (s'=[]):=by simp
 rw[hx]
 generalize decide (s'=[])=d at*
 have hgo:∀l:Heap,getRow (H++l) p 0=some (188,2,[.agg [.str s,.bool b]]):=fun l=>by rw[fb _ hp];exact hg
 cases b<;>cases b'<;>cases d<;>(
  have F:=F4 hgo q hp @ai
  refine sb [.tmp 6] (fn:=Tryz.f204) Tryz.func204 ?_
  intro Q hQ
  refine wk F ?_
  refine kq F (hF) ?_
  refine ee hQ F ?_
  exact gG (fun _=>.int _ _))
end Go.Av
namespace Go.Av
open Go Go.Proofs Go.RowKit
attribute [local irreducible] WP WPl WPix Sat
variable (G:Nat→Option (List AVal))
theorem pR{s:Bs}{c:UInt8}{k:Nat}(hc:s[k]? =some c)(hd:digB c=false):num9 s= -1:=by
 unfold num9
 split
 ·rfl
 ·rw[if_neg]
  intro h
  rw[List.all_eq_true.1 h c (List.mem_of_getElem? hc)]at hd
  cases hd
theorem aB(s:Bs)(hs:s.length≤1073741824)(h:Heap):Sat (CT G) 159 [.str s] h (fun r h'=>r=.int .i64 (num9 s)∧h'=h):=by
 by_cases c0:s.length<1
 ·have e:num9 s= -1:=by unfold num9;rw[if_pos (.inl c0)]
  have q:decide ((s.length:Int)<1)=true:=by simp;omega
  have F:=q
  refine sb [.tmp 2] (fn:=Tryz.f159) Tryz.func159 ?_
  intro Q hQ
  refine wk F ?_
  refine ee hQ F ?_
  exact Fin.same (.int _ _) ⟨by rw[e],rfl⟩
 have q0:decide ((s.length:Int)<1)=false:=by simp;omega
 by_cases c9:s.length>9
 ·have e:num9 s= -1:=by unfold num9;rw[if_pos (.inr c9)]
  have q:decide ((s.length:Int)>9)=true:=by simp;omega
  have F:=F2 q0 q
  refine sb [.tmp 2] (fn:=Tryz.f159) Tryz.func159 ?_
  intro Q hQ
  refine wk F ?_
  refine ee hQ F ?_
  exact Fin.same (.int _ _) ⟨by rw[e],rfl⟩
 have q9:decide ((s.length:Int)>9)=false:=by simp;omega
 have hp9:∀k,k≤s.length→(10:Int)^k≤1000000000:=fun k hk=>by
  have:(10:Nat)^k≤10^9:=Nat.pow_le_pow_right (by omega) (by omega)
  have:((10^k:Nat):Int)≤((10^9:Nat):Int):=by omega
  simpa using this
 have F:=F2 q0 q9
 refine sb [.tmp 2] (fn:=Tryz.f159) Tryz.func159 ?_
 intro Q hQ
 refine wk F ?_
 refine lm (fun nL tL hL=>∃(k:Nat) (m:Int),s.length-k=nL∧h=hL∧tL 3=.int .i64 m∧tL 4=.int .i64 k∧k≤s.length∧m=numA 0 (s.take k)∧(s.take k).all digB=true) ((fun(k:Nat) (m:Int)=>(s.length-k:Nat)) (0) (0)) ?_ ?_
 ·refine Wkn.refl ⟨0,0,rfl,ay,?_,?_,by omega,rfl,rfl⟩
  all_goals first|exact zq F|rfl|omega|trivial|skip
 rintro _ s2 h' ⟨k,m,rfl,rfl,e3,e4,hk,hm,ha⟩ K2 hK2
 simp only[ak,ao,Nat.reduceEqDiff, ↓reduceIte]at e3 e4
 have F:=F3 F e3 e4
 by_cases c1:k<s.length
 ·obtain⟨c,hc,_⟩:=af c1
  have d1:=decide_eq_true c1
  have htk:=List.take_add_one (l:=s) (i:=k)
  rw[hc]at htk
  have htk:s.take (k+1)=s.take k++[c]:=htk
  have hbd:=fD _ ha
  rw[List.length_take,Nat.min_eq_left hk]at hbd
  have h9:=hp9 k hk
  cases hd:digB c with
  |true=>
   have hcc:=hd
   simp only[digB,Bool.and_eq_true,decide_eq_true_eq]at hcc
   have q1:decide ((c.toNat:Int)<48)=false:=by simp;omega
   have q2:decide ((c.toNat:Int)>57)=false:=by simp;omega
   have hn:=fh (s.take k) 0 c
   rw[← htk, ← hm]at hn
   rw[← hm]at hbd
   have hw8:IntKind.wrap .u8 ((c.toNat:Int)-48)=(c.toNat:Int)-48:=by rw[wrap_u8];omega
   have F:=F6 F q1 q2 hc d1 hw8
   try refine sq F ?_
   refine wk F ?_
   refine hK2 _ _ _ (Wkn.refl ⟨k+1,10*m+((c.toNat:Int)-48),rfl,ay,?_,?_,by omega,hn.symm,by rw[htk,List.all_append,ha];simp[hd]⟩) (by omega)
   all_goals first|exact zq F|rfl|omega|trivial|skip
  |false=>
   have e:=pR hc hd
   by_cases q:(c.toNat:Int)<48
   ·have q1:=decide_eq_true q
    have F:=F4 F q1 hc d1
    try refine sq F ?_
    refine wk F ?_
    refine ee hQ F ?_
    exact Fin.same (.int _ _) ⟨by rw[e],rfl⟩
   ·have q1:=decide_eq_false q
    have q2:decide ((c.toNat:Int)>57)=true:=by
     simp only[digB,Bool.and_eq_false_iff,decide_eq_false_iff_not]at hd
     simp;omega
    have F:=F5 F q1 q2 hc d1
    try refine sq F ?_
    refine wk F ?_
    refine ee hQ F ?_
    exact Fin.same (.int _ _) ⟨by rw[e],rfl⟩
 ·have d1:=decide_eq_false c1
  rw[List.take_of_length_le (by omega)]at hm ha
  have e:num9 s=numA 0 s:=by rw[bb (by omega) (by omega),if_pos ha]
  have F:=F2 F d1
  try refine sq F ?_
  refine wk F ?_
  refine ee hQ F ?_
  exact Fin.same (.int _ _) ⟨by rw[e,hm],rfl⟩
theorem ie(s:Bs): -1≤num9 s∧num9 s≤1000000000:=by
 unfold num9
 split
 ·omega
 ·rename_i hl
  split
  ·rename_i ha
   have h:=fD s ha
   have:(10:Nat)^s.length≤10^9:=Nat.pow_le_pow_right (by omega) (by omega)
   have h2:((10^s.length:Nat):Int)≤((10^9:Nat):Int):=by omega
   have h3:(10:Int)^s.length≤1000000000:=by simpa using h2
   omega
  ·omega
theorem bP{sg:UInt8}{a b:Bs}(h:(sg≠43∧sg≠45)∨a.length≠2∨b.length≠2∨num9 a<0∨23<num9 a∨num9 b<0∨59<num9 b):zoneR sg a b=none:=by unfold zoneR;rw[if_pos h]
theorem fm(sg:UInt8)(a b:Bs)(ha:a.length≤1073741824)(hb:b.length≤1073741824)(h:Heap):Sat (CT G) 161 [.int .u8 sg.toNat,.str a,.str b] h (fun r h'=>r=.tup [.int .i64 ((zoneR sg a b).getD 0),.bool (zoneR sg a b).isSome]∧h'=h):=by
 have hA:=aB G a ha
 have hB:=aB G b hb
 have b1:=ie a
 have b2:=ie b
 have sk:∀k:Nat,k<256→(((sg.toNat:Int)=(k:Nat))↔sg=UInt8.ofNat k):=fun k hk=>by
  constructor
  ·intro h;apply UInt8.toNat_inj.1;simp;omega
  ·intro h;rw[h];simp;omega
 by_cases c1:sg≠43∧sg≠45
 ·have q1:((sg.toNat:Int) !=43)=true:=by simpa using fun e=>c1.1 ((sk 43 (by omega)).1 e)
  have q2:((sg.toNat:Int) !=45)=true:=by simpa using fun e=>c1.2 ((sk 45 (by omega)).1 e)
  rw[bP (.inl c1)]
  have F:=F2 q1 q2
  refine sb [.tmp 6,.tmp 7] (fn:=Tryz.f161) Tryz.func161 ?_
  intro Q hQ
  refine wk F ?_
  refine kq F (hA _) ?_
  refine kq F (hB _) ?_
  refine ee hQ F ?_
  exact Fin.same (ah _ _ _) ⟨rfl,rfl⟩
 have hsg:((((sg.toNat:Int) !=43)=false)∧((sg.toNat:Int)==45)=false∧¬sg=45)∨((((sg.toNat:Int) !=43)=true∧((sg.toNat:Int) !=45)=false)∧((sg.toNat:Int)==45)=true∧sg=45):=by
  by_cases e:sg=43
  ·left;rw[e];exact⟨rfl,rfl,by decide⟩
  ·right
   have e2:sg=45:=Classical.byContradiction fun k=>c1 ⟨e,k⟩
   rw[e2]
   exact⟨⟨rfl,rfl⟩,rfl,rfl⟩
 obtain⟨q1,q45,hs⟩| ⟨q1,q45,hs⟩:=hsg
 all_goals (
  by_cases c2:a.length=2
  rotate_left
  ·have q:((a.length:Int) !=2)=true:=by simp;omega
   rw[bP (.inr (.inl c2))]
   have F:=F2 q1 q
   refine sb [.tmp 6,.tmp 7] (fn:=Tryz.f161) Tryz.func161 ?_
   intro Q hQ
   refine wk F ?_
   refine kq F (hA _) ?_
   refine kq F (hB _) ?_
   refine ee hQ F ?_
   exact Fin.same (ah _ _ _) ⟨rfl,rfl⟩
  have q2:((a.length:Int) !=2)=false:=by simp;omega
  by_cases c3:b.length=2
  rotate_left
  ·have q:((b.length:Int) !=2)=true:=by simp;omega
   rw[bP (.inr (.inr (.inl c3)))]
   have F:=F3 q1 q2 q
   refine sb [.tmp 6,.tmp 7] (fn:=Tryz.f161) Tryz.func161 ?_
   intro Q hQ
   refine wk F ?_
   refine kq F (hA _) ?_
   refine kq F (hB _) ?_
   refine ee hQ F ?_
   exact Fin.same (ah _ _ _) ⟨rfl,rfl⟩
  have q3:((b.length:Int) !=2)=false:=by simp;omega
  by_cases c4:num9 a<0
  ·have q:=decide_eq_true c4
   rw[bP (.inr (.inr (.inr (.inl c4))))]
   have F:=F4 q1 q2 q3 q
   refine sb [.tmp 6,.tmp 7] (fn:=Tryz.f161) Tryz.func161 ?_
   intro Q hQ
   refine wk F ?_
   refine kq F (hA _) ?_
   refine kq F (hB _) ?_
   refine ee hQ F ?_
   exact Fin.same (ah _ _ _) ⟨rfl,rfl⟩
  have q4:=decide_eq_false c4
  by_cases c5:num9 a>23
  ·have q:=decide_eq_true c5
   rw[bP (.inr (.inr (.inr (.inr (.inl c5)))))]
   have F:=F5 q1 q2 q3 q4 q
   refine sb [.tmp 6,.tmp 7] (fn:=Tryz.f161) Tryz.func161 ?_
   intro Q hQ
   refine wk F ?_
   refine kq F (hA _) ?_
   refine kq F (hB _) ?_
   refine ee hQ F ?_
   exact Fin.same (ah _ _ _) ⟨rfl,rfl⟩
  have q5:=decide_eq_false c5
  by_cases c6:num9 b<0
  ·have q:=decide_eq_true c6
   rw[bP (.inr (.inr (.inr (.inr (.inr (.inl c6))))))]
   have F:=F6 q1 q2 q3 q4 q5 q
   refine sb [.tmp 6,.tmp 7] (fn:=Tryz.f161) Tryz.func161 ?_
   intro Q hQ
   refine wk F ?_
   refine kq F (hA _) ?_
   refine kq F (hB _) ?_
   refine ee hQ F ?_
   exact Fin.same (ah _ _ _) ⟨rfl,rfl⟩
  have q6:=decide_eq_false c6
  by_cases c7:num9 b>59
  ·have q:=decide_eq_true c7
   rw[bP (.inr (.inr (.inr (.inr (.inr (.inr c7))))))]
   have F:=F7 q1 q2 q3 q4 q5 q6 q
   refine sb [.tmp 6,.tmp 7] (fn:=Tryz.f161) Tryz.func161 ?_
   intro Q hQ
   refine wk F ?_
   refine kq F (hA _) ?_
   refine kq F (hB _) ?_
   refine ee hQ F ?_
   exact Fin.same (ah _ _ _) ⟨rfl,rfl⟩
  have q7:=decide_eq_false c7
  have hz:zoneR sg a b=some (if sg=45 then -(3600*num9 a+60*num9 b)else 3600*num9 a+60*num9 b):=by
   unfold zoneR;rw[if_neg (by rintro(k|k|k|k|k|k|k);exact c1 k;all_goals omega)]
  rw[hz]
  have F:=F8 q1 q2 q3 q4 q5 q6 q7 q45
  refine sb [.tmp 6,.tmp 7] (fn:=Tryz.f161) Tryz.func161 ?_
  intro Q hQ
  refine wk F ?_
  refine kq F (hA _) ?_
  refine kq F (hB _) ?_
  refine ee hQ F ?_
  exact Fin.same (ah _ _ _) ⟨by simp[hs],rfl⟩)
theorem fX{sg:UInt8}{a b:Bs}{z:Int}(h:zoneR sg a b=some z): -400000≤z∧z≤400000:=by
 unfold zoneR at h
 split at h
 ·cases h
 ·rename_i hn
  have h1:¬num9 a<0:=fun k=>hn (by simp[k])
  have h2:¬23<num9 a:=fun k=>hn (by simp[k])
  have h3:¬num9 b<0:=fun k=>hn (by simp[k])
  have h4:¬59<num9 b:=fun k=>hn (by simp[k])
  simp only[Option.some.injEq]at h
  split at h<;>omega
end Go.Av
namespace Go.Av
open Go Go.Proofs Go.RowKit
attribute [local irreducible] WP WPl WPix Sat
variable (G:Nat→Option (List AVal))
theorem dJ(b:UInt8):∀(s:Bs),∀x∈splF b s,x.length≤s.length
 | [],x,hx=>by rw[splF,List.mem_singleton]at hx;rw[hx];exact Nat.le_refl _
 |c::s,x,hx=>by
  have ih:=dJ b s
  rw[splF]at hx
  split at hx
  ·rcases List.mem_cons.1 hx with rfl|hx
   ·simp
   ·have:=ih x hx;simp;omega
  ·split at hx
   ·rw[List.mem_singleton]at hx;rw[hx];simp
   ·rename_i w l e
    rw[e]at ih
    rcases List.mem_cons.1 hx with rfl|hx
    ·have:=ih w (by simp);simp;omega
    ·have:=ih x (by simp[hx]);simp;omega
theorem nC(l:List Bs)(s:Bs): -1≤ixS l s∧ixS l s≤l.length:=by
 unfold ixS
 split
 ·rename_i i e
  obtain⟨h1,_⟩:=List.findIdx?_eq_some_iff_getElem.1 e
  omega
 ·omega
theorem pS{l:List Bs}{s:Bs}(h:s∈l):∃i:Nat,ixS l s=(i:Int):=by
 unfold ixS
 split
 ·rename_i i e;exact⟨i,rfl⟩
 ·rename_i e
  rw[List.findIdx?_eq_none_iff]at e
  exact absurd (e s h) (by simp)
theorem aF{w:List Bs}{k:Nat}(h:k<w.length):w[k]? =some (w.getD k []):=by
 rw[List.getD_eq_getElem?_getD,List.getElem?_eq_getElem h];rfl
theorem gH{P:Program}{h:Heap}{T e n i:Nat}{es:List AVal}{k:IntKind}(he:elmT P T=some e)(hn:szOf P e=some n)(hi:i≤es.length):aslice P h T (.sl n es) (some (.int k (i:Int))) none none=some (.sl n (es.drop i)):=by
 simp only[aslice,he,hn,optInt,Option.isNone_none,if_true]
 rw[if_pos ⟨by omega,by omega,by omega⟩]
 simp
theorem jP(b:UInt8):∀s:Bs,(splF b s).length≤s.length+1
 | []=>by simp[splF]
 |c::s=>by
  have ih:=jP b s
  rw[splF]
  split
  ·simp;omega
  ·split
   ·simp
   ·rename_i w l e
    rw[e]at ih
    simp at ih ⊢;omega
theorem qZ{l:List Bs}{s:Bs}{i:Nat}(hn:∀x∈l.take i,x≠s)(hx:l[i]? =some s):ixS l s=i:=by
 obtain⟨hlt,he⟩:=List.getElem?_eq_some_iff.1 hx
 have:l.findIdx? (fun x=>decide (x=s))=some i:=by
  rw[List.findIdx?_eq_some_iff_getElem]
  refine⟨hlt,by simpa using he,fun j hj=>?_⟩
  have:=hn (l[j]'(by omega)) (List.mem_take_iff_getElem.2 ⟨j,by omega,rfl⟩)
  simpa using this
 unfold ixS;rw[this]
theorem gI{l:List Bs}{s:Bs}(hn:∀x∈l,x≠s):ixS l s= -1:=by
 have:l.findIdx? (fun x=>decide (x=s))=none:=by
  rw[List.findIdx?_eq_none_iff]
  intro x hx
  simpa using hn x hx
 unfold ixS;rw[this]
theorem cU(l:List Bs)(s:Bs)(hl:l.length≤1048576)(h:Heap):Sat (CT G) 186 [.sl 1 (l.map .str),.str s] h (fun r h'=>r=.int .i64 (ixS l s)∧h'=h):=by
 have ml:(l.map AVal.str).length=l.length:=List.length_map ..
 have F:=ml
 refine sb [.tmp 4] (fn:=Tryz.f186) Tryz.func186 ?_
 intro Q hQ
 refine wk F ?_
 refine lm (fun nL tL hL=>∃(i:Nat),l.length-i=nL∧h=hL∧tL 5=.int .i64 i∧i≤l.length∧(∀x∈l.take i,x≠s)) ((fun(i:Nat)=>(l.length-i:Nat)) (0)) ?_ ?_
 ·refine Wkn.refl ⟨0,rfl,ay,?_,by omega,by simp⟩
  all_goals first|exact zq F|rfl|omega|trivial|skip
 rintro _ s2 h' ⟨i,rfl,rfl,e5,hi,hn⟩ K2 hK2
 simp only[ak,ao,Nat.reduceEqDiff, ↓reduceIte]at e5
 have F:=F2 F e5
 by_cases c1:i<l.length
 ·obtain⟨x,hx,_⟩:=af c1
  have d1:=decide_eq_true c1
  by_cases e:x=s
  ·have q:(x==s)=true:=by simpa using e
   rw[e]at hx
   have q:(s==s)=true:=by simp
   have F:=F4 F hx d1 q
   try refine sq F ?_
   refine wk F ?_
   refine ee hQ F ?_
   exact Fin.same (.int _ _) ⟨by rw[qZ hn hx],rfl⟩
  ·have q:(x==s)=false:=by simpa using e
   have hn':∀y∈l.take (i+1),y≠s:=fun y hy=>by
    rw[List.take_add_one,hx]at hy
    rcases List.mem_append.1 hy with hy|hy
    ·exact hn y hy
    ·have:y=x:=by simpa using hy
     rw[this];exact e
   have F:=F4 F hx d1 q
   try refine sq F ?_
   refine wk F ?_
   refine hK2 _ _ _ (Wkn.refl ⟨i+1,rfl,ay,?_,by omega,hn'⟩) (by omega)
   all_goals first|exact zq F|rfl|omega|trivial|skip
 ·have d1:=decide_eq_false c1
  rw[List.take_of_length_le (by omega)]at hn
  have F:=F2 F d1
  try refine sq F ?_
  refine wk F ?_
  refine ee hQ F ?_
  exact Fin.same (.int _ _) ⟨by rw[gI hn],rfl⟩
theorem oW{h0 Z:Heap}{q v e:Nat}(l:List Bs)(hq:h0.length≤q)(hg:getRow Z q v=some (e,1,l.map AVal.str)):Frz Z h0.length (.hs q v 0 l.length true) (.sl 1 (l.map AVal.str)):=
 Frz.data hq hg (by simp) (fun r hr=>by obtain⟨x,_,rfl⟩:=List.mem_map.1 hr;exact .str _) (fun r hr=>by obtain⟨x,_,rfl⟩:=List.mem_map.1 hr;intro c hc;simp[AVal.cells]at hc;subst hc;rfl)
theorem nE{s:Bs}{b c:UInt8}{i f:Nat}(hf:f≤i)(hc:s[i]? =some c)(hp:∀c∈ (s.take i).drop f,c≠b)(e:c=b):splF b (s.drop f)=(s.take i).drop f::splF b (s.drop (i+1)):=by
 obtain⟨hlt,he⟩:=List.getElem?_eq_some_iff.1 hc
 have h1:s.drop f=(s.take i).drop f++s.drop i:=by
  conv=>lhs;rw[← List.take_append_drop i s]
  rw[List.drop_append_of_le_length (by rw[List.length_take];omega)]
 rw[h1,List.drop_eq_getElem_cons hlt,he,e,db b _ _ hp]
theorem ed(s:Bs)(b:UInt8)(hs:s.length≤1048576)(h:Heap):Sat (CT G) 185 [.str s,.int .u8 b.toNat] h (fun r h'=>r=.sl 1 ((splF b s).map .str)∧h'=h):=by
 have dt:∀i:Decidable True, @decide True i=true:=fun i=>by simp
 have F:=F2 hs dt
 refine sb [.tmp 4] (fn:=Tryz.f185) Tryz.func185 ?_
 intro Q hQ
 refine wk F ?_
 refine lm (fun nL tL hL=>∃(i f v:Nat) (out:List Bs) (j:Heap),s.length+1-i=nL∧h++(.row 9 1 v (out.map AVal.str)::j)=hL∧tL 5=.hs h.length v 0 out.length true∧tL 6=.int .i64 f∧tL 7=.int .i64 i∧i≤s.length+1∧f≤i∧out.length≤i∧((i≤s.length∧splF b s=out++splF b (s.drop f)∧∀c∈ (s.take i).drop f,c≠b)∨(i=s.length+1∧out=splF b s))) ((fun(i f v:Nat) (out:List Bs) (j:Heap)=>(s.length+1-i:Nat)) (0) (0) (0) ([]) ([])) ?_ ?_
 ·refine⟨_,_,Weak.virt 5 9 1 (by simp) (by omega) (by exact zq F),⟨0,0,0,[],[],rfl,ay,?_,?_,?_,by omega,by omega,by simp,.inl ⟨by omega,by simp,by simp⟩⟩⟩
  all_goals first|exact zq F|rfl|omega|trivial|skip
 rintro _ s2 h' ⟨i,f,v,out,j,rfl,rfl,e5,e6,e7,hi,hf,hol,ho⟩ K2 hK2
 simp only[ak,ao,Nat.reduceEqDiff, ↓reduceIte]at e5 e6 e7
 have F:=F4 F e5 e6 e7
 have mo:(out.map AVal.str).length=out.length:=List.length_map ..
 rcases ho with⟨hle,ho,hp⟩| ⟨hle,ho⟩
 ·have d1:=decide_eq_true hle
  by_cases c1:i=s.length
  ·have hb:splF b s=out++[(s.take i).drop f]:=by
    have:(s.take i).drop f=s.drop f:=by rw[List.take_of_length_le (by omega)]
    rw[this]at hp ⊢
    rw[ho,dU b _ hp]
   have q:((i:Int)==(s.length:Int))=true:=by simp[c1]
   have hfi:f≤s.length:=by omega
   have F:=F8 F d1 q mo hf hle hfi @ai
   try refine sq F ?_
   refine wk F ?_
   refine aq F ?_
   try refine sq F ?_
   refine wk F ?_
   refine hK2 _ _ _ (Wkn.refl ⟨i+1,i+1,v+1,out++[(s.take i).drop f],j,rfl,by simp,?_,?_,?_,by omega,by omega,by simp;omega,.inr ⟨by omega,hb.symm⟩⟩) (by omega)
   all_goals first|exact zq F|rfl|omega|trivial|skip
  ·have hlt:i<s.length:=by omega
   obtain⟨c,hc,_⟩:=af hlt
   have q:((i:Int)==(s.length:Int))=false:=by simp;omega
   by_cases e:c=b
   ·have qe:((c.toNat:Int)==(b.toNat:Int))=true:=by simp[e]
    have hb:=nE hf hc hp e
    rw[hb]at ho
    have F:=u9 F d1 q qe hc mo hf hle hlt @ai
    try refine sq F ?_
    refine wk F ?_
    refine aq F ?_
    try refine sq F ?_
    refine wk F ?_
    refine hK2 _ _ _ (Wkn.refl ⟨i+1,i+1,v+1,out++[(s.take i).drop f],j,rfl,by simp,?_,?_,?_,by omega,by omega,by simp;omega,.inl ⟨by omega,by rw[ho];simp,by rw[List.drop_of_length_le (by rw[List.length_take];omega)];simp⟩⟩) (by omega)
    all_goals first|exact zq F|rfl|omega|trivial|skip
   ·have qe:((c.toNat:Int)==(b.toNat:Int))=false:=by
     have:¬c.toNat=b.toNat:=fun k=>e (UInt8.toNat_inj.1 k)
     simp;omega
    have hp':∀x∈ (s.take (i+1)).drop f,x≠b:=fun x hx=>by
     rw[List.take_add_one,hc,List.drop_append_of_le_length (by rw[List.length_take];omega)]at hx
     rcases List.mem_append.1 hx with hx|hx
     ·exact hp x hx
     ·have:x=c:=by simpa using hx
      rw[this];exact e
    have F:=u9 F d1 q qe hc mo hf hle hlt @ai
    try refine sq F ?_
    refine wk F ?_
    refine hK2 _ _ _ (Wkn.refl ⟨i+1,f,v,out,j,rfl,rfl,?_,?_,?_,by omega,by omega,by omega,.inl ⟨by omega,ho,hp'⟩⟩) (by omega)
    all_goals first|exact zq F|rfl|omega|trivial|skip
 ·have d1:decide (i≤s.length)=false:=decide_eq_false (by omega)
  have F:=F3 F d1 mo
  try refine sq F ?_
  refine wk F ?_
  refine ee hQ F ?_
  rw[← ho]
  exact Fin.frz (oW (e:=9) out (by omega) (by rw[bW _ rfl];show(if v=v then _ else _)=_;rw[if_pos rfl])) ⟨rfl,rfl⟩
theorem nF:∀i,i<12→([AVal.int .i64 0,.int .i64 0,.int .i64 0,.int .i64 0,.int .i64 (-5),.int .i64 (-4),.int .i64 (-6),.int .i64 (-5),.int .i64 (-7),.int .i64 (-6),.int .i64 (-8),.int .i64 (-7)]:List AVal)[i]? =some (.int .i64 (hrsL.getD i 0))∧ -8≤hrsL.getD i 0∧hrsL.getD i 0≤0:=by
 intro i hi
 have:i=0∨i=1∨i=2∨i=3∨i=4∨i=5∨i=6∨i=7∨i=8∨i=9∨i=10∨i=11:=by omega
 rcases this with rfl|rfl|rfl|rfl|rfl|rfl|rfl|rfl|rfl|rfl|rfl|rfl<;>exact⟨rfl,by decide,by decide⟩
theorem gJ(s:Bs)(hs:s.length≤1048576)(h:Heap):Sat (CT G) 187 [.str s] h (fun r h'=>r=.tup [.int .i64 ((zonR s).getD 0),.bool (zonR s).isSome]∧h'=h):=by
 have hI:∀h,Sat (CT G) 186 [.sl 1 [.str [71,77,84],.str [85,84],.str [85,84,67],.str [90],.str [69,83,84],.str [69,68,84],.str [67,83,84],.str [67,68,84],.str [77,83,84],.str [77,68,84],.str [80,83,84],.str [80,68,84]],.str s] h (fun r h'=>r=.int .i64 (ixS zonL s)∧h'=h):=cU G zonL s (by decide)
 cases hf:zonL.findIdx? (fun x=>decide (x=s))with
 |some i=>
  have e:ixS zonL s=i:=by unfold ixS;rw[hf]
  have hi:i<12:=by
   obtain⟨h1,_⟩:=List.findIdx?_eq_some_iff_getElem.1 hf
   exact h1
  obtain⟨g,b1,b2⟩:=nF i hi
  have ez:zonR s=some (3600*hrsL.getD i 0):=by unfold zonR namF;rw[hf]
  have dt:∀i:Decidable True, @decide True i=true:=fun i=>by simp
  have df:∀i:Decidable False, @decide False i=false:=fun i=>by simp
  rw[e]at hI
  rw[ez]
  generalize hrsL.getD i 0=u at*
  have F:=F4 g dt df hi
  refine sb [.tmp 2,.tmp 3] (fn:=Tryz.f187) Tryz.func187 ?_
  intro Q hQ
  refine wk F ?_
  refine kq F (hI _) ?_
  refine ee hQ F ?_
  exact Fin.same (ah _ _ _) ⟨rfl,rfl⟩
 |none=>
  have e:ixS zonL s= -1:=by unfold ixS;rw[hf]
  have ez:zonR s=if s.length≠5 then none else zoneR (s.getD 0 0) ((s.drop 1).take 2) (s.drop 3):=by unfold zonR namF;rw[hf]
  have dt:∀i:Decidable True, @decide True i=true:=fun i=>by simp
  have df:∀i:Decidable False, @decide False i=false:=fun i=>by simp
  rw[e]at hI
  by_cases l5:s.length=5
  ·have q5:((s.length:Int) !=5)=false:=by rw[l5];rfl
   rw[if_neg (fun n=>n l5)]at ez
   have j0:s[0]? =some (s.getD 0 0):=by rw[List.getD_eq_getElem?_getD,List.getElem?_eq_getElem (by omega)];rfl
   have d13:(s.take 3).drop 1=(s.drop 1).take 2:=by rw[List.drop_take]
   have m3:3≤s.length:=by omega
   have m0:0<s.length:=by omega
   have hZ:=fm G (s.getD 0 0) ((s.drop 1).take 2) (s.drop 3) (by simp;omega) (by simp;omega)
   rw[← ez]at hZ
   have F:=F7 dt df q5 j0 d13 m3 m0
   refine sb [.tmp 2,.tmp 3] (fn:=Tryz.f187) Tryz.func187 ?_
   intro Q hQ
   refine wk F ?_
   refine kq F (hI _) ?_
   refine aa (hZ _) ?_
   try refine sq F ?_
   refine wk F ?_
   refine ee hQ F ?_
   exact Fin.same (ah _ _ _) ⟨rfl,rfl⟩
  ·have q5:((s.length:Int) !=5)=true:=by simp only[bne_iff_ne,ne_eq];omega
   rw[if_pos l5]at ez
   rw[ez]
   have F:=F3 dt df q5
   refine sb [.tmp 2,.tmp 3] (fn:=Tryz.f187) Tryz.func187 ?_
   intro Q hQ
   refine wk F ?_
   refine kq F (hI _) ?_
   refine ee hQ F ?_
   exact Fin.same (ah _ _ _) ⟨rfl,rfl⟩
theorem li{s:Bs}{z:Int}(h:zonR s=some z): -400000≤z∧z≤400000:=by
 unfold zonR at h
 cases hn:namF s with
 |some u=>
  rw[hn]at h
  obtain rfl:u=z:=by simpa using h
  unfold namF at hn
  cases hf:zonL.findIdx? (fun x=>decide (x=s))with
  |none=>rw[hf]at hn;cases hn
  |some i=>
   rw[hf]at hn
   obtain⟨h1,_⟩:=List.findIdx?_eq_some_iff_getElem.1 hf
   obtain⟨_,b1,b2⟩:=nF i h1
   have:3600*hrsL.getD i 0=u:=by simpa using hn
   omega
 |none=>
  rw[hn]at h
  by_cases l5:s.length≠5
  ·have:(if s.length≠5 then none else zoneR (s.getD 0 0) ((s.drop 1).take 2) (s.drop 3))=some z:=h
   rw[if_pos l5]at this;cases this
  ·have:(if s.length≠5 then none else zoneR (s.getD 0 0) ((s.drop 1).take 2) (s.drop 3))=some z:=h
   rw[if_neg l5]at this;exact fX this
end Go.Av
namespace Go.Av
open Go Go.Proofs Go.RowKit
attribute [local irreducible] WP WPl WPix Sat
variable (G:Nat→Option (List AVal))
theorem fN(b:UInt8):∀s:Bs,Lib.splitK [b] 0 (Lib.count s [b]) s=splF b s
 | []=>by
  have:Lib.count ([]:Bs) [b]=0:=Lib.count_miss (by simp[Lib.index])
  rw[this];rfl
 |c::s=>by
  have ih:=fN b s
  unfold splF
  by_cases h:c=b
  ·subst h
   have hix:Lib.index (c::s) [c]=((0:Nat):Int):=by rw[Lib.index];simp[List.isPrefixOf]
   have hne:¬(Lib.index (c::s) [c]== -1)=true:=by rw[hix];decide
   rw[if_pos rfl,Lib.count_cons_eq,Nat.add_comm,Lib.splitK,if_neg hne,hix, ← ih]
   rfl
  ·rw[if_neg h,Lib.count_cons_ne c b s h, ← ih]
   have hp:([b]:Bs).isPrefixOf (c::s)=false:=by simp[List.isPrefixOf,Ne.symm h]
   have hix:Lib.index (c::s) [b]=if Lib.index s [b]== -1 then-1 else Lib.index s [b]+1:=by rw[Lib.index,hp];simp
   by_cases hm:Lib.index s [b]= -1
   ·rw[Lib.count_miss hm];rfl
   ·have hge:=Lib.index_ge s [b]
    obtain⟨j,hj⟩:∃j:Nat,Lib.index s [b]=j:=⟨(Lib.index s [b]).toNat,by omega⟩
    have hn1:¬(Lib.index s [b]== -1)=true:=fun e=>hm (beq_iff_eq.1 e)
    have hn2:¬(Lib.index (c::s) [b]== -1)=true:=by rw[hix,if_neg hn1,hj];simp;omega
    rw[Lib.count_hit (by simp) hj,Nat.add_comm,Lib.splitK,if_neg hn2,Lib.splitK,if_neg hn1,hix,if_neg hn1,hj]
    have e1:((j:Int)+1).toNat=j+1:=by omega
    rw[e1]
    simp[Nat.add_right_comm]
theorem Sat.of_callsD{C:Ctx}{h:Heap}{f:FuncId}{fn:Func}{args:List AVal}{vs:List Value}{R:AVal→Heap→Prop}(hf:C.P.funcs[f]? =some fn)(hb:fn.body.isNone=false)(hname:(fn.name== "runtime.NumGoroutine")=false)
  (ha:plainL args=some vs)(hc:∀B S μ w,Fits C B S μ h w→Calls C.P f vs.toArray w fun e w'=>∃v,e=.returned v∧OpPost C B S μ w R v w'):Sat C f args h R:=by
 unfold Sat
 intro B S μ w us fit rl
 obtain rfl:=dP ha rl
 have e:(callFunc f us.toArray).run C.P w=.ok (.enter f us.toArray) w:=by
  have hne:fn.name≠ "runtime.NumGoroutine" :=by simpa using hname
  obtain⟨c,hbc⟩:∃c,fn.body=some c:=by cases hq:fn.body with|none=>simp[hq]at hb|some c=>exact⟨c,rfl⟩
  simp[callFunc,hf,hne,hbc]
 rw[e]
 exact hc B S μ w fit
theorem nG{C:Ctx}{B:Nat}{S:Addr→Prop}{μ:Map}{h:Heap}{w:World}(f:Fits C B S μ h w)(l:List Bs)(h0:l≠ [])(hm:l.length≤maxLen)(T:TypeId):
  ∃S',Step B S μ w S' μ (w.alloc (.cells ((l.map fun s=>Value.string ⟨s.toArray⟩).toArray) T))∧Fits C B S' μ h (w.alloc (.cells ((l.map fun s=>Value.string ⟨s.toArray⟩).toArray) T))∧
   Rep (w.alloc (.cells ((l.map fun s=>Value.string ⟨s.toArray⟩).toArray) T)) S' μ (.sl 1 (l.map .str)) (.slice (some ⟨w.heap.size,0,none⟩) l.length l.length):=by
 have hB:Below w.heap.size w (w.alloc (.cells ((l.map fun s=>Value.string ⟨s.toArray⟩).toArray) T)):=Below.alloc (Below.refl _ _) (Nat.le_refl _) _
 have hk:∀k,k<w.heap.size→(w.alloc (.cells ((l.map fun s=>Value.string ⟨s.toArray⟩).toArray) T)).heap[k]? =w.heap[k]? :=fun k hk=>hB.block k hk
 have hsz:(w.alloc (.cells ((l.map fun s=>Value.string ⟨s.toArray⟩).toArray) T)).heap.size=w.heap.size+1:=Array.size_push ..
 have st:Step B S μ w (fun a=>S a∨a.block=w.heap.size) μ (w.alloc (.cells ((l.map fun s=>Value.string ⟨s.toArray⟩).toArray) T)):=
  ⟨fun _ ha=>.inl ha,fun a ha=>World.cell?_of_block (hk _ (f.lie a ha)),hB.mono f.base,MapLe.refl _,fun a ha=>ha.elim .inl fun e=>.inr (e▸f.base)⟩
 refine⟨_,st,⟨fun g cs hg=>(f.glob g cs hg).mono st,f.len,f.sep,fun p m b h1 e1=>?_,by rw[hsz];have:=f.base;omega,fun a ha=>?_,fun p m k h1 h2=>(f.blk p m k h1 h2).mono st fun q hq=>hk q (f.own p m q h1 hq).2.1⟩,?_⟩
 ·obtain⟨a1,a2,a3⟩:=f.own p m b h1 e1
  refine⟨a1,by rw[hsz];omega,fun a ha=>ha.elim (a3 a) fun e=>by rw[e];omega⟩
 ·rw[hsz];rcases ha with ha|ha
  ·have:=f.lie a ha;omega
  ·rw[ha];omega
 ·have hl:(l.map AVal.str).length=l.length:=List.length_map ..
  have hg:∀(i:Nat) (e:AVal),(l.map AVal.str)[i]? =some e→∃s,l[i]? =some s∧e=.str s:=fun i e he=>by
   rw[List.getElem?_map]at he
   cases hs:l[i]? with
   |none=>rw[hs]at he;cases he
   |some s=>rw[hs]at he;exact⟨s,rfl,by cases he;rfl⟩
  have:=Rep.sl (w:=w.alloc (.cells ((l.map fun s=>Value.string ⟨s.toArray⟩).toArray) T)) (S:=fun a=>S a∨a.block=w.heap.size) (μ:=μ) 1 (l.map .str) w.heap.size 0 l.length (fun i _=>.string ⟨(l.getD i []).toArray⟩) (by simpa using h0) (by rw[hl];exact Nat.le_refl _) hm
   (fun i e he=>by obtain⟨s,_,rfl⟩:=hg i e he;rfl)
   (fun i e j c he hj=>by
    obtain⟨s,hs,rfl⟩:=hg i e he
    have hj0:j=0:=by
     have:=(List.getElem?_eq_some_iff.1 hj).1
     simp[AVal.cells]at this;exact this
    subst hj0
    cases hj
    refine⟨.inr rfl,?_,rfl⟩
    rw[World.cell?_alloc_mark]
    simp[hs])
   (fun i e j c he hj=>by
    obtain⟨s,hs,rfl⟩:=hg i e he
    have hj0:j=0:=by
     have:=(List.getElem?_eq_some_iff.1 hj).1
     simp[AVal.cells]at this;exact this
    subst hj0
    cases hj
    simp only[List.getD_eq_getElem?_getD,hs]
    exact .str _)
  rw[hl]at this
  exact this
theorem nH(hG:GOk G)(s:Bs)(b:UInt8)(hs:s.length≤8388608)(h:Heap):Sat (CT G) 202 [.str s,.str [b]] h (fun r h'=>r=.sl 1 ((splF b s).map .str)∧h'=h):=by
 refine Sat.of_callsD (fn:=Tryz.f202) Tryz.func202 (by kernel_rfl) (by kernel_rfl) rfl fun B S μ w f=>?_
 obtain⟨m,hm⟩:=hG.cell f
 refine(Tryz.strings_Split ⟨s.toArray⟩ ⟨#[b]⟩ m w (by rw[ft];omega) hm (Nat.le_refl 1)).mono fun e w' ⟨h1,h2⟩=>?_
 have hd:(Lib.splitB ⟨#[b]⟩ 0 (Lib.countB ⟨s.toArray⟩ ⟨#[b]⟩) ⟨s.toArray⟩).map (·.data.toList)=splF b s:=by
  rw[Lib.splitB_data];exact fN b s
 have hl:=Lib.splitB_all ⟨#[b]⟩ (Nat.le_refl 1) 0 _ (⟨s.toArray⟩:ByteArray) rfl
 have hv:(Lib.splitB ⟨#[b]⟩ 0 (Lib.countB ⟨s.toArray⟩ ⟨#[b]⟩) ⟨s.toArray⟩).map Value.string=(splF b s).map fun s=>Value.string ⟨s.toArray⟩:=by
  rw[← hd,List.map_map]
  exact List.map_congr_left fun x _=>by simp
 have hc:Lib.countB (⟨s.toArray⟩:ByteArray) ⟨#[b]⟩+1=(splF b s).length:=by rw[← hl, ← hd,List.length_map]
 rw[hv]at h2
 rw[hc]at h1
 have hsl:=jP b s
 obtain⟨S',st,f',r⟩:=nG f (splF b s) (kW b s) (by unfold maxLen;omega) 9
 rw[← h2]at st f' r
 exact⟨_,h1,_,h,S',μ,⟨rfl,rfl⟩,st,f',r⟩
theorem nI(hG:GOk G)(s p:Bs)(hs:s.length≤1073741824)(h:Heap):
  Sat (CT G) 165 [.str s,.str p] h (fun r h'=>r=.int .i64 (Lib.index s p)∧h'=h):=by
 refine Sat.of_calls (fn:=Tryz.f165) Tryz.func165 (by kernel_rfl) (by kernel_rfl) rfl rfl fun B S μ w f=>?_
 obtain⟨m,hm⟩:=hG.cell f
 refine(Tryz.strings_Index ⟨s.toArray⟩ ⟨p.toArray⟩ m w (by rw[ft];omega) hm).mono fun e w' ⟨h1,h2⟩=>⟨h1,bu h2⟩
def monB:Bs:=monL.flatten
theorem oX(w:Bs)(h3:w.length=3):(∃i:Nat,i<12∧Lib.index monB w=3*(i:Nat)∧ixS monL w=i)∨(ixS monL w= -1∧(Lib.index monB w<0∨(0≤Lib.index monB w∧Lib.index monB w<36∧Lib.index monB w%3≠0))):=by
 by_cases hm:w∈monL
 ·left
  have:w=[74,97,110]∨w=[70,101,98]∨w=[77,97,114]∨w=[65,112,114]∨w=[77,97,121]∨w=[74,117,110]∨w=[74,117,108]∨w=[65,117,103]∨w=[83,101,112]∨w=[79,99,116]∨w=[78,111,118]∨w=[68,101,99]:=by simpa [monL]using hm
  rcases this with rfl|rfl|rfl|rfl|rfl|rfl|rfl|rfl|rfl|rfl|rfl|rfl
  ·exact⟨0,by decide,by decide,by decide⟩
  ·exact⟨1,by decide,by decide,by decide⟩
  ·exact⟨2,by decide,by decide,by decide⟩
  ·exact⟨3,by decide,by decide,by decide⟩
  ·exact⟨4,by decide,by decide,by decide⟩
  ·exact⟨5,by decide,by decide,by decide⟩
  ·exact⟨6,by decide,by decide,by decide⟩
  ·exact⟨7,by decide,by decide,by decide⟩
  ·exact⟨8,by decide,by decide,by decide⟩
  ·exact⟨9,by decide,by decide,by decide⟩
  ·exact⟨10,by decide,by decide,by decide⟩
  ·exact⟨11,by decide,by decide,by decide⟩
 ·right
  refine⟨gI (fun x hx e=>hm (e▸hx)),?_⟩
  rcases Lib.index_spec monB w with⟨h,_⟩| ⟨i,h,hi,ho,_⟩
  ·left;rw[h];decide
  ·right
   rw[h]
   have hr:=Lib.occAt_room ho
   have hb:monB.length=36:=by decide
   have hi:i+3≤36:=by
    rcases hr with hr|hr
    ·omega
    ·rw[hr]at h3;cases h3
   refine⟨by omega,by omega,fun hmod=>hm ?_⟩
   obtain⟨k,rfl⟩:∃k,i=3*k:=⟨i/3,by omega⟩
   have hk:k<12:=by omega
   rw[Lib.occAt_iff_take monB w (3*k) (by omega),h3]at ho
   have ho:(monB.drop (3*k)).take 3=w:=by simpa using ho
   rw[← ho]
   have:k=0∨k=1∨k=2∨k=3∨k=4∨k=5∨k=6∨k=7∨k=8∨k=9∨k=10∨k=11:=by omega
   rcases this with rfl|rfl|rfl|rfl|rfl|rfl|rfl|rfl|rfl|rfl|rfl|rfl<;>decide
theorem pT{w:Bs}(h:w.length≠3):ixS monL w= -1:=gI fun x hx e=>h (by
 have:∀x∈monL,x.length=3:=by decide
 rw[← e];exact this x hx)
theorem mm(hG:GOk G)(w:Bs)(h:Heap):Sat (CT G) 206 [.str w] h (fun r h'=>r=.int .i64 (ixS monL w+1)∧h'=h):=by
 have hI:∀h,Sat (CT G) 165 [.str [74,97,110,70,101,98,77,97,114,65,112,114,77,97,121,74,117,110,74,117,108,65,117,103,83,101,112,79,99,116,78,111,118,68,101,99],.str w] h (fun r h'=>r=.int .i64 (Lib.index monB w)∧h'=h):=nI G hG monB w (by decide)
 by_cases h3:w.length=3
 rotate_left
 ·have q:((w.length:Int) !=3)=true:=by simp only[bne_iff_ne,ne_eq];omega
  have e:=pT h3
  have F:=q
  refine sb [.tmp 2] (fn:=Tryz.f206) Tryz.func206 ?_
  intro Q hQ
  refine wk F ?_
  refine kq F (hI _) ?_
  refine ee hQ F ?_
  exact Fin.same (.int _ _) ⟨by rw[e];rfl,rfl⟩
 have q:((w.length:Int) !=3)=false:=by rw[h3];rfl
 rcases oX w h3 with⟨i,h12,ei,e⟩| ⟨e,h0| ⟨h0,h36,h0m⟩⟩
 ·have q1:decide ((3*(i:Nat):Int)<0)=false:=decide_eq_false (by omega)
  have t1:((3*(i:Nat):Int)).tmod 3=0:=by rw[Int.tmod_eq_emod_of_nonneg (by omega)];omega
  have t2:((3*(i:Nat):Int)).tdiv 3=i:=by rw[Int.tdiv_eq_ediv_of_nonneg (by omega)];omega
  rw[ei]at hI
  have F:=F4 q q1 t1 t2
  refine sb [.tmp 2] (fn:=Tryz.f206) Tryz.func206 ?_
  intro Q hQ
  refine wk F ?_
  refine kq F (hI _) ?_
  refine ee hQ F ?_
  exact Fin.same (.int _ _) ⟨by rw[e];rfl,rfl⟩
 ·have q1:decide (Lib.index monB w<0)=true:=decide_eq_true h0
  have F:=F2 q q1
  refine sb [.tmp 2] (fn:=Tryz.f206) Tryz.func206 ?_
  intro Q hQ
  refine wk F ?_
  refine kq F (hI _) ?_
  refine ee hQ F ?_
  exact Fin.same (.int _ _) ⟨by rw[e];rfl,rfl⟩
 ·have q1:decide (Lib.index monB w<0)=false:=decide_eq_false (by omega)
  have t1:(Lib.index monB w).tmod 3=Lib.index monB w%3:=Int.tmod_eq_emod_of_nonneg h0
  have q2:((Lib.index monB w%3) !=0)=true:=by simpa using h0m
  have F:=F4 q q1 t1 q2
  refine sb [.tmp 2] (fn:=Tryz.f206) Tryz.func206 ?_
  intro Q hQ
  refine wk F ?_
  refine kq F (hI _) ?_
  refine ee hQ F ?_
  exact Fin.same (.int _ _) ⟨by rw[e];rfl,rfl⟩
end Go.Av
