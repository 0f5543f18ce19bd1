/- Parts. -/
import Derived.Test.YtjfjncmgclaokaaGreatDoorMqTc0
set_option linter.unusedSimpArgs false
set_option linter.unusedVariables false
set_option linter.unusedSectionVars false
set_option linter.unnecessarySimpa false
set_option maxRecDepth 100000
set_option maxHeartbeats 16000000
namespace Go.Av
open Go Go.Proofs Go.RowKit
attribute [local irreducible] WP WPl WPix Sat
variable (G:Nat→Option (List AVal))
abbrev dR(s:Bs)(b:Bool):Blk:=.row 309 2 0 [.agg [.str s,.bool b]]
theorem sj(n:Nat)(s:Bs)(b:Bool):CloB n (dR s b):=by
 intro r hr;simp only[M4]at hr;subst hr;exact .agg _ (by intro c hc;simp at hc;rcases hc with rfl|rfl;exact .str _;exact .bool _)
theorem jL{H j:Heap}{p:Nat}{s:Bs}{b:Bool}{x:AVal}(hx:∀n,Clo n x):Fin H (H.set p (dR s b)++j) (fun r h'=>r=x∧h'=H.set p (dR s b)) x:=
 Fin.keep (List.length_set ..) (mu (sj _ _ _)) (hx _) ⟨rfl,rfl⟩
theorem bi{H:Heap}{p:Nat}{s:Bs}{b:Bool}{x:AVal}(hx:∀n,Clo n x):Fin H (H.set p (dR s b)) (fun r h'=>r=x∧h'=H.set p (dR s b)) x:=
 Fin.keep0 (List.length_set ..) (mu (sj _ _ _)) (hx _) ⟨rfl,rfl⟩
theorem oX{s:Bs}{k:Nat}{c:UInt8}(h:s[k]? =some c):(digB c=true→dec s k=(c.toNat,1)∧48≤c.toNat∧c.toNat≤57)∧(digB c=false→(dec s k).1<48∨57<(dec s k).1):=by
 unfold digB;by_cases ha:c.toNat<128
 ·rw[d6 s k c h ha];constructor
  ·intro hd;simp only[G2,H2]at hd;exact⟨rfl,hd⟩
  ·intro hd;simp only[U1,decide_eq_false_iff_not]at hd;show c.toNat<48∨57<c.toNat;omega
 ·have hd:=gg s k c h (by omega);constructor
  ·intro hd;simp only[G2,H2]at hd;omega
  ·intro _;omega
theorem i8:∀(a:Bs) (n:Int) (c:UInt8),numA n (a++[c])=10*numA n a+((c.toNat:Int)-48)
 | [],n,c=>rfl
 |d::a,n,c=>i8 a _ c
theorem iF:∀(a:Bs),a.all digB=true→0≤numA 0 a∧numA 0 a<(10:Int)^a.length:=by
 have key:∀(a:Bs) (n:Int),0≤n→a.all digB=true→0≤numA n a∧numA n a<(n+1)*(10:Int)^a.length:=by
  intro a;induction a with
  |nil=>intro n hn _;simp[numA];omega
  |cons c a ih=>
   intro n hn h;simp only[S9,G2,digB,H2]at h;obtain⟨h1,h2⟩:=h;obtain⟨i1,i2⟩:=ih (10*n+((c.toNat:Int)-48)) (by omega) (by simpa [digB]using h2);refine⟨i1,Int.lt_of_lt_of_le i2 ?_⟩;rw[G5,Int.pow_succ,Int.mul_comm _ 10, ← Int.mul_assoc];exact P6 (by omega) (Int.le_of_lt (Int.pow_pos (by omega)))
 intro a h;have:=key a 0 (by omega) h;simpa using this
theorem bw{r r':Rdr}{w:Nat}{n:Int}(e:r.digits w=(n,r')):0≤n∧n<(10:Int)^w:=by
 have hp:(0:Int)<10^w:=Int.pow_pos (by omega);unfold Rdr.digits at e;split at e
 ·cases e;omega
 ·rename_i hl;split at e
  ·rename_i ha;cases e;have:=iF _ ha;rw[I2,Nat.min_eq_left (by omega)]at this;exact this
  ·cases e;omega
theorem bc{s s':Bs}{b b':Bool}{w:Nat}{n:Int}(e:(Rdr.mk s b).digits w=(n,⟨s',b'⟩))(hw:w≤9)(hs:s.length≤1073741824){H:Heap}{p:Nat}(hg:getRow H p 0=some (309,2,[.agg [.str s,.bool b]])):
  Sat (CT G) 322 [.hp p 0 0 0,.int .i64 w] H (fun r h'=>r=.int .i64 n∧h'=H.set p (dR s' b')):=by
 have hp:=aw hg;have hgj:∀j,getRow (H++j) p 0=some (309,2,[.agg [.str s,.bool b]]):=fun j=>by rw[bO _ hp];exact hg
 unfold Rdr.digits at e;by_cases hl:s.length<w
 ·rw[G3 hl]at e;cases e;have d1:=G8 hl;have F:=F2 hg d1;refine sb [.tmp 4] Tryz.func322 ?_;intro Q hQ;refine wk F ?_;refine ee hQ F ?_;exact bi (fun _=>.int _ _)
 ·rw[G0 hl]at e;have d1:=G7 hl;have hwl:w≤s.length:=by omega
  have hp9:∀k,k≤w→(10:Int)^k≤1000000000:=fun k hk=>by
   have:(10:Nat)^k≤10^9:=Q8 (by omega) (by omega);have:((10^k:Nat):Int)≤((10^9:Nat):Int):=by omega
   simpa using this
  have htl:(s.take w).length=w:=by rw[I2];omega
  have F:=F8 hg hgj hp d1 hwl @mE @d7 @rS;refine sb [.tmp 4] Tryz.func322 ?_;intro Q hQ;refine wk F ?_;refine lm (fun nL tL hL=>∃(k:Nat) (m:Int),w-k=nL∧H++[.iter (s.take w) k]=hL∧tL 5=.int .i64 m∧k≤w∧m=numA 0 ((s.take w).take k)∧((s.take w).take k).all digB=true) ((fun(k:Nat) (m:Int)=>(w-k:Nat)) (0) (0)) ?_ ?_
  ·refine G9 ⟨0,0,rfl,ar,?_,by omega,rfl,rfl⟩;all_goals try exact zZz F
  rintro _ s2 h' ⟨k,m,rfl,rfl,e5,hk,hm,ha⟩ K2 hK2;simp only[ai,ak,Nat.reduceEqDiff, ↓reduceIte]at e5;have F:=F2 F e5;refine wk F ?_;refine cd (d9 _ _ _ _) (fun hlt=>?_) (fun hge=>?_)
  ·obtain⟨c,hc,_⟩:=ae hlt;obtain⟨h1,h2⟩:=oX hc;have htk:=M2 (l:=s.take w) (i:=k);rw[hc]at htk;have htk:(s.take w).take (k+1)=(s.take w).take k++[c]:=htk;have hbd:=iF _ ha;rw[I2,htl,Nat.min_eq_left hk]at hbd;have h9:=hp9 k hk;unfold dec at h1 h2;cases hd:digB c with
   |true=>
    obtain⟨h1,h48,h57⟩:=h1 hd;rw[h1];have q1:decide ((c.toNat:Int)<48)=false:=(by simp;omega);have q2:decide ((c.toNat:Int)>57)=false:=(by simp;omega);have hn:=i8 ((s.take w).take k) 0 c;rw[← htk, ← hm]at hn;rw[← hm]at hbd;have F:=F3 F q1 q2;(try refine sq F ?_);refine wk F ?_;refine hK2 _ _ _ (G9 ⟨k+1,10*m+((c.toNat:Int)-48),rfl,ar,?_,by omega,hn.symm,by rw[htk,List.all_append,ha];simp[hd]⟩) (by omega);all_goals try exact zZz F
   |false=>
    have h2:=h2 hd;have hall:((s.take w).all digB)=false:=by
     cases hx:(s.take w).all digB with
     |false=>rfl
     |true=>rw[I1.1 hx c (G4 hc)]at hd;cases hd
    rw[G0 (by rw[hall];simp)]at e;cases e;generalize (Utf8.decode ⟨(s.take w).toArray⟩ k).1=rn at*;by_cases q:rn<48
    ·have q1:decide ((rn:Int)<48)=true:=(by simp;omega);have F:=F2 F q1;(try refine sq F ?_);refine wk F ?_;refine ee hQ F ?_;exact jL (fun _=>.int _ _)
    ·have q1:decide ((rn:Int)<48)=false:=(by simp;omega);have q2:decide ((rn:Int)>57)=true:=(by simp;omega);have F:=F3 F q1 q2;(try refine sq F ?_);refine wk F ?_;refine ee hQ F ?_;exact jL (fun _=>.int _ _)
  ·rw[H9 (by omega)]at hm ha;rw[G3 ha]at e;cases e;(try refine sq F ?_);refine wk F ?_;refine ee hQ F ?_;rw[hm];exact jL (fun _=>.int _ _)
theorem wc(l:Bs)(c:UInt8):(Lib.indexByte l c<0↔c ∉ l)∧ -1≤Lib.indexByte l c:=by
 induction l with
 |nil=>simp[Lib.indexByte]
 |cons b l ih=>
  unfold Lib.indexByte;by_cases h:b=c
  ·subst h;simp
  ·have h1:(b==c)=false:=(by simpa using h);have h2:¬c=b:=fun e=>h e.symm
   simp only[h1,I7,if_false,J6,h2,false_or];by_cases k:Lib.indexByte l c= -1
   ·simp only[k,beq_self_eq_true,if_true];constructor
    ·constructor
     ·intro _;exact ih.1.1 (by omega)
     ·intro _;omega
    ·omega
   ·have k1:(Lib.indexByte l c== -1)=false:=(by simpa using k);simp only[k1,I7,if_false];constructor
    ·constructor
     ·intro hh;omega
     ·intro hh;have:=ih.1.2 hh;omega
    ·omega
theorem dT{s s':Bs}{b b':Bool}{l:Bs}{n:Int}(e:(Rdr.mk s b).sign l=(n,⟨s',b'⟩)){H:Heap}{p:Nat}(hg:getRow H p 0=some (309,2,[.agg [.str s,.bool b]])):
  Sat (CT G) 323 [.hp p 0 0 0,.str l] H (fun r h'=>r=.int .u8 n∧h'=H.set p (dR s' b')):=by
 have hp:=aw hg;unfold Rdr.sign at e;cases s with
 |nil=>
  cases e;have z:(([]:Bs)==[])=true:=rfl;have F:=F2 hg z;refine sb [.tmp 4] Tryz.func323 ?_;intro Q hQ;refine wk F ?_;refine ee hQ F ?_;exact bi (fun _=>.int _ _)
 |cons c t=>
  have hx:=wc l c;have z:((c::t)==([]:Bs))=false:=rfl;simp only[]at e;by_cases hm:c∈l
  ·rw[G3 hm]at e;cases e;have q1:decide (Lib.indexByte l c<0)=false:=G7 fun k=>hx.1.1 k hm
   have F:=F3 hg z q1;refine sb [.tmp 4] Tryz.func323 ?_;intro Q hQ;refine wk F ?_;refine kq F (bj G l c _) ?_;refine ee hQ F ?_;exact bi (fun _=>.int _ _)
  ·rw[G0 hm]at e;cases e;have q1:decide (Lib.indexByte l c<0)=true:=G8 (hx.1.2 hm);have F:=F3 hg z q1;refine sb [.tmp 4] Tryz.func323 ?_;intro Q hQ;refine wk F ?_;refine kq F (bj G l c _) ?_;refine ee hQ F ?_;exact bi (fun _=>.int _ _)
theorem cC(n a b:Int)(h:Heap):Sat (CT G) 193 [.int .i64 n,.int .i64 a,.int .i64 b] h (fun r h'=>r=.bool (decide (a≤n)&&decide (n≤b))∧h'=h):=by
 by_cases k:a≤n
 ·have k2:decide (n≥a)=true:=by simpa using k
  have F:=k2;refine sb [.tmp 6] Tryz.func193 ?_;intro Q hQ;refine wk F ?_;refine ee hQ F ?_;exact I8 (.bool _) ⟨by simp[k],rfl⟩
 ·have k2:decide (n≥a)=false:=by simpa using k
  have F:=k2;refine sb [.tmp 6] Tryz.func193 ?_;intro Q hQ;refine wk F ?_;refine ee hQ F ?_;exact I8 (.bool _) ⟨by simp[k],rfl⟩
theorem uK{s:Bs}{b:Bool}(hs:s.length≤1073741824){H:Heap}{p:Nat}(hg:getRow H p 0=some (309,2,[.agg [.str s,.bool b]])):
  Sat (CT G) 346 [.hp p 0 0 0] H (fun r h'=>r=.int .i64 (s.takeWhile digB).length∧h'=H):=by
 have hp:=aw hg;have hgj:∀j,getRow (H++j) p 0=some (309,2,[.agg [.str s,.bool b]]):=fun j=>by rw[bO _ hp];exact hg
 have F:=F2 hg hgj;refine sb [.tmp 2] Tryz.func346 ?_;intro Q hQ;refine wk F ?_;refine lm (fun nL tL hL=>∃(k:Nat),s.length-k=nL∧H++[.iter s k]=hL∧k≤s.length∧(∀i,i<k→∀c,s[i]? =some c→digB c=true)) ((fun(k:Nat)=>(s.length-k:Nat)) (0)) ?_ ?_
 ·refine G9 ⟨0,rfl,ar,by omega,fun i hi=>by omega⟩;all_goals try exact zZz F
 rintro _ s2 h' ⟨k,rfl,rfl,hk,hq⟩ K2 hK2;refine wk F ?_;refine cd (d9 _ _ _ _) (fun hlt=>?_) (fun hge=>?_)
 ·obtain⟨c,hc,_⟩:=ae hlt;obtain⟨h1,h2⟩:=oX hc;unfold dec at h1 h2;cases hd:digB c with
  |true=>
   obtain⟨h1,h48,h57⟩:=h1 hd;rw[h1];have q1:decide ((c.toNat:Int)<48)=false:=(by simp;omega);have q2:decide ((c.toNat:Int)>57)=false:=(by simp;omega);have hq1:∀i,i<k+1→∀c,s[i]? =some c→digB c=true:=fun i hi c' hc2=>by
    rcases N9 i k with h1|h1
    ·exact hq i h1 c' hc2
    ·obtain rfl:i=k:=by omega
     rw[hc]at hc2;cases hc2;exact hd
   have F:=F3 F q1 q2;(try refine sq F ?_);refine wk F ?_;refine hK2 _ _ _ (G9 ⟨k+1,rfl,ar,by omega,hq1⟩) (by omega);all_goals try exact zZz F
  |false=>
   have h2:=h2 hd;obtain⟨e1,_⟩:=dJ digB s k hq hk (.inr ⟨_,hc,hd⟩);have el:(s.takeWhile digB).length=k:=(by rw[e1,I2];omega);generalize (Utf8.decode ⟨s.toArray⟩ k).1=rn at*;by_cases q:rn<48
   ·have q1:decide ((rn:Int)<48)=true:=(by simp;omega);have F:=F2 F q1;(try refine sq F ?_);refine wk F ?_;refine ee hQ F ?_;rw[el];exact H3 (.int _ _) ⟨rfl,rfl⟩
   ·have q1:decide ((rn:Int)<48)=false:=(by simp;omega);have q2:decide ((rn:Int)>57)=true:=(by simp;omega);have F:=F3 F q1 q2;(try refine sq F ?_);refine wk F ?_;refine ee hQ F ?_;rw[el];exact H3 (.int _ _) ⟨rfl,rfl⟩
 ·obtain⟨e1,_⟩:=dJ digB s s.length (fun i hi=>hq i (by omega)) (H5 _) (.inl rfl);have el:(s.takeWhile digB).length=s.length:=by rw[e1,I2];omega
  try refine sq F ?_
  refine wk F ?_;refine ee hQ F ?_;rw[el];exact H3 (.int _ _) ⟨rfl,rfl⟩
theorem qt{s s':Bs}{b b':Bool}(e:(Rdr.mk s b).point=⟨s',b'⟩)(hs:s.length≤1073741824){H:Heap}{p:Nat}(hg:getRow H p 0=some (309,2,[.agg [.str s,.bool b]])):
  Sat (CT G) 324 [.hp p 0 0 0] H (fun r h'=>r=.tup []∧h'=H.set p (dR s' b')):=by
 have hp:=aw hg;have hP:=cP G s [46];have hset:H.set p (dR s b)=H:=by
  refine List.ext_getElem? fun i=>?_
  by_cases k:p=i
  ·subst k;rw[L5 hp];exact(bS hg).symm
  ·rw[K6 k]
 have same:(Rdr.mk s b).point=⟨s,b⟩→Lib.hasPrefix s [46]=false→Sat (CT G) 324 [.hp p 0 0 0] H (fun r h'=>r=.tup []∧h'=H.set p (dR s' b')):=fun e2 h46=>by
  rw[e2]at e;cases e;rw[h46]at hP;have F:=hg;refine sb [] Tryz.func324 ?_;intro Q hQ;refine wk F ?_;refine kq F (hP _) ?_;refine ee hQ F ?_;rw[hset];exact I8 (.tup _ (by simp)) ⟨rfl,rfl⟩
 cases s with
 |nil=>exact same rfl rfl
 |cons c t=>
  by_cases hc:c=46
  rotate_left
  ·refine same ?_ (by
   have k:(46==c)=false:=(by simpa using fun e:(46:UInt8)=c=>hc e.symm);simp[Lib.hasPrefix,List.isPrefixOf,k])
   unfold Rdr.point;split
   ·rename_i h;simp only[R8]at h;exact absurd h.1 hc
   ·rfl
  subst hc;have h46:Lib.hasPrefix (46::t) [46]=true:=by simp[Lib.hasPrefix]
  rw[h46]at hP;have e2:(Rdr.mk (46::t) b).point=⟨t.drop (t.takeWhile digB).length,b|| !(decide (1≤(t.takeWhile digB).length)&&decide ((t.takeWhile digB).length≤9))⟩:=rfl;rw[e2]at e;cases e;have htl:t.length≤1073741824:=by simp at hs;omega
  have hg1:getRow (H.set p (dR t b)) p 0=some (309,2,[.agg [.str t,.bool b]]):=by rw[bV _ _ _ _ _ hp];rfl
  have hR:=uK G htl hg1;have hW:=cC G ((t.takeWhile digB).length:Int) 1 9;have hle:=xw t;have eb:(decide ((1:Int)≤((t.takeWhile digB).length:Int))&&decide (((t.takeWhile digB).length:Int)≤9))=(decide (1≤(t.takeWhile digB).length)&&decide ((t.takeWhile digB).length≤9)):=by
   congr 1
   ·exact decide_eq_decide.2 (by omega)
   ·exact decide_eq_decide.2 (by omega)
  rw[eb]at hW;generalize (t.takeWhile digB).length=n at*;generalize (decide (1≤n)&&decide (n≤9))=v at*;have h1l:1≤(46::t).length:=by simp
  have hd1:(46::t).drop 1=t:=rfl;have F:=F7 hg @h1l hd1 hg1 hp hle @al;cases b with
  |true=>
   simp only[L0]at*;refine sb [] Tryz.func324 ?_;intro Q hQ;refine wk F ?_;refine kq F (hP _) ?_;refine kq F (hR) ?_;refine ee hQ F ?_;exact bi (fun _=>.tup _ (by simp))
  |false=>
   simp only[O0]at*;refine sb [] Tryz.func324 ?_;intro Q hQ;refine wk F ?_;refine kq F (hP _) ?_;refine kq F (hR) ?_;refine kq F (hW _) ?_;refine ee hQ F ?_;exact bi (fun _=>.tup _ (by simp))
theorem iG{a b:Int}(h0:0≤a):a.tdiv b=a/b:=R1 h0
theorem co{a b:Int}(h0:0≤a):a.tmod b=a%b:=P5 h0
def Dt.av(x:Dt):AVal:=.agg [.int .i64 x.y,.int .i64 x.m,.int .i64 x.d,.int .i64 x.h,.int .i64 x.i,.int .i64 x.s]
@[go_sem] theorem Dt.av_eq(x:Dt):x.av=.agg [.int .i64 x.y,.int .i64 x.m,.int .i64 x.d,.int .i64 x.h,.int .i64 x.i,.int .i64 x.s]:=(rfl)
theorem ss(y:Int)(hy:0≤y)(h:Heap):Sat (CT G) 359 [.int .i64 y] h (fun r h'=>r=.bool (leapF y)∧h'=h):=by
 unfold leapF;by_cases a:y%4=0
 ·have a1:(y%4==0)=true:=by simp[a]
  by_cases b:y%100=0
  ·have b1:(y%100 !=0)=false:=(by simp[b]);have F:=F4 a1 b1 @co hy;refine sb [.tmp 2] Tryz.func359 ?_;intro Q hQ;refine wk F ?_;refine ee hQ F ?_;exact I8 (.bool _) ⟨by simp[a,b];rfl,rfl⟩
  ·have b1:(y%100 !=0)=true:=(by simp[b]);have F:=F4 a1 b1 @co hy;refine sb [.tmp 2] Tryz.func359 ?_;intro Q hQ;refine wk F ?_;refine ee hQ F ?_;exact I8 (.bool _) ⟨by simp[a,b],rfl⟩
 ·have a1:(y%4==0)=false:=by simp[a]
  have F:=F3 a1 @co hy;refine sb [.tmp 2] Tryz.func359 ?_;intro Q hQ;refine wk F ?_;refine ee hQ F ?_;exact I8 (.bool _) ⟨by simp[a],rfl⟩
theorem su(y m:Int)(h:Heap):Sat (CT G) 356 [.int .i64 y,.int .i64 m] h (fun r h'=>r=.int .i64 (daysF y m)∧h'=h):=by
 have dt:∀i:Decidable True, @decide True i=true:=fun i=>by simp
 have df:∀i:Decidable False, @decide False i=false:=fun i=>by simp
 by_cases y1:y<1
 ·have e:daysF y m=0:=by unfold daysF;rw[G3 (by omega)]
  have q:=G8 y1;have F:=F3 q dt df;refine sb [.tmp 4] Tryz.func356 ?_;intro Q hQ;refine wk F ?_;refine ee hQ F ?_;exact I8 (.int _ _) ⟨by rw[e],rfl⟩
 have q1:=G7 y1;by_cases y2:y>9999
 ·have e:daysF y m=0:=by unfold daysF;rw[G3 (by omega)]
  have q:=G8 y2;have F:=F4 q1 q dt df;refine sb [.tmp 4] Tryz.func356 ?_;intro Q hQ;refine wk F ?_;refine ee hQ F ?_;exact I8 (.int _ _) ⟨by rw[e],rfl⟩
 have q2:=G7 y2;by_cases m1:m<1
 ·have e:daysF y m=0:=by unfold daysF;rw[G3 (by omega)]
  have q:=G8 m1;have F:=F5 q1 q2 q dt df;refine sb [.tmp 4] Tryz.func356 ?_;intro Q hQ;refine wk F ?_;refine ee hQ F ?_;exact I8 (.int _ _) ⟨by rw[e],rfl⟩
 have q3:=G7 m1;by_cases m2:m>12
 ·have e:daysF y m=0:=by unfold daysF;rw[G3 (by omega)]
  have q:=G8 m2;have F:=F6 q1 q2 q3 q dt df;refine sb [.tmp 4] Tryz.func356 ?_;intro Q hQ;refine wk F ?_;refine ee hQ F ?_;exact I8 (.int _ _) ⟨by rw[e],rfl⟩
 have q4:=G7 m2;have hr:¬(y<1∨9999<y∨m<1∨12<m):=by omega
 by_cases m3:m=2
 ·subst m3;have hL:=ss G y (by omega);have e:daysF y 2=if leapF y then 29 else 28:=by unfold daysF;rw[G0 hr,G3 rfl]
  cases hl:leapF y with
  |true=>
   rw[hl]at hL e;have F:=F4 q1 q2 dt df;refine sb [.tmp 4] Tryz.func356 ?_;intro Q hQ;refine wk F ?_;refine kq F (hL _) ?_;refine ee hQ F ?_;exact I8 (.int _ _) ⟨by rw[e];rfl,rfl⟩
  |false=>
   rw[hl]at hL e;have F:=F4 q1 q2 dt df;refine sb [.tmp 4] Tryz.func356 ?_;intro Q hQ;refine wk F ?_;refine kq F (hL _) ?_;refine ee hQ F ?_;exact I8 (.int _ _) ⟨by rw[e];rfl,rfl⟩
 ·have q5:(m==2)=false:=by simpa using m3
  have e:daysF y m=30+(m+m/8)%2:=by
   have hm:m=1∨m=3∨m=4∨m=5∨m=6∨m=7∨m=8∨m=9∨m=10∨m=11∨m=12:=(by omega);rcases hm with rfl|rfl|rfl|rfl|rfl|rfl|rfl|rfl|rfl|rfl|rfl<;>(unfold daysF;rw[G0 hr];rfl)
  have F:=F9 q1 q2 q3 q4 q5 dt df @iG @co;refine sb [.tmp 4] Tryz.func356 ?_;intro Q hQ;refine wk F ?_;refine ee hQ F ?_;exact I8 (.int _ _) ⟨by rw[e],rfl⟩
theorem sv(x:Dt):okD x=((decide (1≤x.d)&&decide (x.d≤daysF x.y x.m))&&((decide (0≤x.h)&&decide (x.h≤23))&&((decide (0≤x.i)&&decide (x.i≤59))&&(decide (0≤x.s)&&decide (x.s≤59))))):=by
 unfold okD;simp only[Bool.and_assoc]
theorem qv(x:Dt)(h:Heap):Sat (CT G) 352 [x.av] h (fun r h'=>r=.int .i64 (if okD x then 0 else 40)∧h'=h):=by
 have hD:=su G x.y x.m;have hW1:=cC G x.d 1 (daysF x.y x.m);have hW2:=cC G x.h 0 23;have hW3:=cC G x.i 0 59;have hW4:=cC G x.s 0 59;rw[sv];generalize (decide (1≤x.d)&&decide (x.d≤daysF x.y x.m))=b1 at*;generalize (decide (0≤x.h)&&decide (x.h≤23))=b2 at*;generalize (decide (0≤x.i)&&decide (x.i≤59))=b3 at*;generalize (decide (0≤x.s)&&decide (x.s≤59))=b4 at*;generalize daysF x.y x.m=dd at*;obtain⟨y,m,d,hh,i,s⟩:=x;rw[Dt.av_eq];simp only[]at*;cases b1 with
 |false=>
  refine sb [.tmp 2] Tryz.func352 ?_;intro Q hQ;refine wk trivial ?_;refine aa (hD _) ?_;try refine sq trivial ?_
  refine wk trivial ?_;refine aa (hW1 _) ?_;try refine sq trivial ?_
  refine wk trivial ?_;refine ee hQ trivial ?_;exact H3 (.int _ _) ⟨rfl,rfl⟩
 |true=>
  cases b2 with
  |false=>
   refine sb [.tmp 2] Tryz.func352 ?_;intro Q hQ;refine wk trivial ?_;refine aa (hD _) ?_;(try refine sq trivial ?_);refine wk trivial ?_;refine aa (hW1 _) ?_;(try refine sq trivial ?_);refine wk trivial ?_;refine aa (hW2 _) ?_;(try refine sq trivial ?_);refine wk trivial ?_;refine ee hQ trivial ?_;exact H3 (.int _ _) ⟨rfl,rfl⟩
  |true=>
   cases b3 with
   |false=>
    refine sb [.tmp 2] Tryz.func352 ?_;intro Q hQ;refine wk trivial ?_;refine aa (hD _) ?_;(try refine sq trivial ?_);refine wk trivial ?_;refine aa (hW1 _) ?_;(try refine sq trivial ?_);refine wk trivial ?_;refine aa (hW2 _) ?_;(try refine sq trivial ?_);refine wk trivial ?_;refine aa (hW3 _) ?_;(try refine sq trivial ?_);refine wk trivial ?_;refine ee hQ trivial ?_;exact H3 (.int _ _) ⟨rfl,rfl⟩
   |true=>
    cases b4<;>(
     refine sb [.tmp 2] Tryz.func352 ?_;intro Q hQ;refine wk trivial ?_;refine aa (hD _) ?_;(try refine sq trivial ?_);refine wk trivial ?_;refine aa (hW1 _) ?_;(try refine sq trivial ?_);refine wk trivial ?_;refine aa (hW2 _) ?_;(try refine sq trivial ?_);refine wk trivial ?_;refine aa (hW3 _) ?_;(try refine sq trivial ?_);refine wk trivial ?_;refine aa (hW4 _) ?_;(try refine sq trivial ?_);refine wk trivial ?_;refine ee hQ trivial ?_;exact H3 (.int _ _) ⟨rfl,rfl⟩)
theorem j9(y m:Int):0≤daysF y m∧daysF y m≤31∧(1≤daysF y m→1≤y∧y≤9999∧1≤m∧m≤12):=by
 unfold daysF;split
 ·omega
 ·split
  ·split<;>omega
  ·split<;>omega
theorem mZ{x:Dt}(h:okD x=true):1≤x.y∧x.y≤9999∧1≤x.m∧x.m≤12∧1≤x.d∧x.d≤31∧0≤x.h∧x.h≤23∧0≤x.i∧x.i≤59∧0≤x.s∧x.s≤59:=by
 unfold okD at h;simp only[G2,H2]at h;have:=j9 x.y x.m;omega
theorem sw(x:Dt)(h1:1≤x.y∧x.y≤9999)(h2:1≤x.m∧x.m≤12)(h3:1≤x.d∧x.d≤31)(h:Heap):Sat (CT G) 353 [x.av] h (fun r h'=>r=.int .i64 (dayP x.y x.m x.d)∧h'=h):=by
 obtain⟨y,m,d,hh,i,s⟩:=x;rw[Dt.av_eq];simp only[]at*;obtain⟨y1,y2⟩:=h1;obtain⟨m1,m2⟩:=h2;obtain⟨d1,d2⟩:=h3;unfold dayP dayM;by_cases c:m<3
 ·have q:decide (m-3<0)=true:=by simp;omega
  have e9:m-3+12=m+9:=by omega
  rw[G3 c];have F:=F3 q @iG @co
  skip
  refine sb [.tmp 2] Tryz.func353 ?_;intro Q hQ;refine wn F ?_;refine mY (by decide+kernel) (xC G) ?_;refine sq F ?_;refine wn F ?_
  skip
  refine ee hQ F ?_;rw[e9];exact H3 (.int _ _) ⟨rfl,rfl⟩
 ·have q:decide (m-3<0)=false:=by simp;omega
  rw[G0 c];have F:=F3 q @iG @co
  skip
  refine sb [.tmp 2] Tryz.func353 ?_;intro Q hQ;refine wn F ?_;refine mY (by decide+kernel) (xC G) ?_;refine sq F ?_;refine wn F ?_
  skip
  refine ee hQ F ?_;exact H3 (.int _ _) ⟨rfl,rfl⟩
theorem kC{y m d:Int}(h1:1≤y∧y≤9999)(h2:1≤m∧m≤12)(h3:1≤d∧d≤31): -800000≤dayP y m d∧dayP y m d≤3000000:=by
 unfold dayP dayM;split<;>omega
theorem uL(x:Dt)(h:Heap):Sat (CT G) 347 [x.av] h (fun r h'=>r=.tup [.int .i64 (if okD x then momD x else 0),.int .i64 (if okD x then 0 else 40)]∧h'=h):=by
 have hC:=qv G x;cases hk:okD x with
 |false=>
  rw[hk]at hC;obtain⟨y,m,d,hh,i,s⟩:=x;simp only[Dt.av_eq]at*;refine sb [.tmp 2,.tmp 3] Tryz.func347 ?_;intro Q hQ;refine wk trivial ?_;refine kq trivial (hC _) ?_;refine ee hQ trivial ?_;exact H3 (.tup _ (fun x hx=>by simp only[J6,O7,or_false]at hx;rcases hx with rfl|rfl<;>exact .int _ _)) ⟨rfl,rfl⟩
 |true=>
  rw[hk]at hC;obtain⟨k1,k2,k3,k4,k5,k6,k7,k8,k9,k10,k11,k12⟩:=mZ hk;have hD:=sw G x ⟨k1,k2⟩ ⟨k3,k4⟩ ⟨k5,k6⟩;have hb:=kC ⟨k1,k2⟩ ⟨k3,k4⟩ ⟨k5,k6⟩;unfold momD;obtain⟨y,m,d,hh,i,s⟩:=x;simp only[Dt.av_eq]at*;generalize dayP y m d=dd at*;refine sb [.tmp 2,.tmp 3] Tryz.func347 ?_;intro Q hQ;refine wk trivial ?_;refine kq trivial (hC _) ?_;refine aa (hD _) ?_;try refine sq trivial ?_
  refine wk trivial ?_;refine ee hQ trivial ?_;exact H3 (.tup _ (fun x hx=>by simp only[J6,O7,or_false]at hx;rcases hx with rfl|rfl<;>exact .int _ _)) ⟨rfl,rfl⟩
theorem n7{s s':Bs}{b b' c:Bool}{z:Int}(e:(Rdr.mk s b).off c=(z,⟨s',b'⟩))(hs:s.length≤1073741824){H:Heap}{p:Nat}(hg:getRow H p 0=some (309,2,[.agg [.str s,.bool b]])):
  Sat (CT G) 336 [.hp p 0 0 0,.bool c] H (fun r h'=>(r=.int .i64 z∧h'=H.set p (dR s' b'))):=by
 have hp:=aw hg;have hgs:∀s b,getRow (H.set p (dR s b)) p 0=some (309,2,[.agg [.str s,.bool b]]):=fun s b=>by rw[bV _ _ _ _ _ hp];rfl
 rcases e1:(Rdr.mk s b).sign [43,45]with⟨sg,s1,b1⟩;rcases e2:(Rdr.mk s1 b1).digits 2 with⟨hh,s2,b2⟩;rcases e3:(Rdr.mk s2 b2).sign [58]with⟨x3,s3,b3⟩;have l1:s1.length≤s.length:=by
  have:=Rdr.sign_le (r:=⟨s,b⟩) (l:=[43,45]);rw[e1]at this;exact this
 have l2:s2.length≤s1.length:=by
  have:=Rdr.digits_le (r:=⟨s1,b1⟩) (w:=2);rw[e2]at this;exact this
 have l3:s3.length≤s2.length:=by
  have:=Rdr.sign_le (r:=⟨s2,b2⟩) (l:=[58]);rw[e3]at this;exact this
 have hb2:=bw e2;have end_:∀(s4:Bs) (b4:Bool) (m:Int),(if c=true then(Rdr.mk s3 b3).digits 2 else(Rdr.mk s2 b2).digits 2)=(m,⟨s4,b4⟩)→z=(if sg=45 then -(3600*hh+60*m)else 3600*hh+60*m)∧s'=s4∧b'=(b4||(decide (hh>23)||decide (m>59))):=by
  intro s4 b4 m hm;unfold Rdr.off at e;simp only[e1,e2,e3]at e;cases c with
  |true=>simp only[if_true]at hm e;rw[hm]at e;cases e;exact⟨rfl,rfl,rfl⟩
  |false=>simp only[I7,if_false]at hm e;rw[hm]at e;cases e;exact⟨rfl,rfl,rfl⟩
 have fin:∀x:Int,Fin H (H.set p (dR s' b')) (fun r h'=>r=.int .i64 x∧h'=H.set p (dR s' b')) (.int .i64 x):=fun x=>bi (fun _=>.int _ _)
 have S1:=dT G e1 hg;have S2:=bc G e2 (by omega) (by omega) (hgs s1 b1);have S3:=dT G e3 (hgs s2 b2);rw[T9]at S2 S3;have body:∀(s4:Bs) (b4:Bool) (m:Int),(if c=true then(Rdr.mk s3 b3).digits 2 else(Rdr.mk s2 b2).digits 2)=(m,⟨s4,b4⟩)→0≤m→m<100→
   (∀s5 b5,s5=(if c=true then s3 else s2)→b5=(if c=true then b3 else b2)→Sat (CT G) 322 [.hp p 0 0 0,.int .i64 2] (H.set p (dR s5 b5)) (fun r h'=>r=.int .i64 m∧h'=H.set p (dR s4 b4)))→
   Sat (CT G) 336 [.hp p 0 0 0,.bool c] H (fun r h'=>(r=.int .i64 z∧h'=H.set p (dR s' b'))):=by
  intro s4 b4 m hm m0 m1 S4;obtain⟨rfl,rfl,hb'⟩:=end_ s4 b4 m hm;clear end_ hm;have h10:(10:Int)^2=100:=rfl;rw[h10]at hb2;generalize q1:decide (hh>23)=d1 at*;generalize q2:decide (m>59)=d2 at*;have hw:=hgs s' b4;have h3:b4=true∨(b4=false∧d1=true)∨(b4=false∧d1=false):=by cases b4<;>cases d1<;>simp
  by_cases h45:sg=45
  ·rw[G3 h45]at*;have q4:(sg==45)=true:=(by simp[h45]);rcases h3 with rfl| ⟨rfl,rfl⟩| ⟨rfl,rfl⟩<;>cases c<;>(
    simp only[L0,O0]at hb';subst hb';have F:=F6 hg q1 q2 q4 hw (@T9 Blk);refine sb [.tmp 4] Tryz.func336 ?_;intro Q hQ;refine wk F ?_;refine kq F (S1) ?_;refine kq F (S2) ?_;(try refine kq F (S3) ?_);refine kq F (S4 _ _ rfl rfl) ?_;refine ee hQ F ?_;rw[Int.zero_sub];exact fin _)
  ·rw[G0 h45]at*;have q4:(sg==45)=false:=(by simp[h45]);rcases h3 with rfl| ⟨rfl,rfl⟩| ⟨rfl,rfl⟩<;>cases c<;>(
    simp only[L0,O0]at hb';subst hb';have F:=F6 hg q1 q2 q4 hw (@T9 Blk);refine sb [.tmp 4] Tryz.func336 ?_;intro Q hQ;refine wk F ?_;refine kq F (S1) ?_;refine kq F (S2) ?_;(try refine kq F (S3) ?_);refine kq F (S4 _ _ rfl rfl) ?_;refine ee hQ F ?_;exact fin _)
 cases c with
 |true=>
  rcases e4:(Rdr.mk s3 b3).digits 2 with⟨m,s4,b4⟩;have hb:=bw e4;have S4:=bc G e4 (by omega) (by omega) (hgs s3 b3);rw[T9]at S4;exact body s4 b4 m e4 hb.1 hb.2 (fun s5 b5 h5 h6=>by rw[h5,h6];exact S4)
 |false=>
  rcases e4:(Rdr.mk s2 b2).digits 2 with⟨m,s4,b4⟩;have hb:=bw e4;have S4:=bc G e4 (by omega) (by omega) (hgs s2 b2);rw[T9]at S4;exact body s4 b4 m e4 hb.1 hb.2 (fun s5 b5 h5 h6=>by rw[h5,h6];exact S4)
theorem sx{s s':Bs}{b b':Bool}{z:Int}(e:(Rdr.mk s b).zone=(z,⟨s',b'⟩))(hs:s.length≤1073741824){H:Heap}{p:Nat}(hg:getRow H p 0=some (309,2,[.agg [.str s,.bool b]])):
  Sat (CT G) 326 [.hp p 0 0 0] H (fun r h'=>(r=.int .i64 z∧h'=H.set p (dR s' b'))):=by
 have hp:=aw hg;unfold Rdr.zone at e;by_cases h1:s=[90]
 ·subst h1;rw[G3 (.inl rfl)]at e;cases e;have z:(([90]:Bs)==[90])=true:=rfl;have F:=F2 hg z;refine sb [.tmp 2] Tryz.func326 ?_;intro Q hQ;refine wk F ?_;refine ee hQ F ?_;exact bi (fun _=>.int _ _)
 ·have q1:(s==[90])=false:=by simpa using h1
  by_cases h2:s=[122]
  ·subst h2;rw[G3 (.inr rfl)]at e;cases e;have z:(([122]:Bs)==[122])=true:=rfl;have F:=F3 hg q1 z;refine sb [.tmp 2] Tryz.func326 ?_;intro Q hQ;refine wk F ?_;refine ee hQ F ?_;exact bi (fun _=>.int _ _)
  ·have q2:(s==[122])=false:=(by simpa using h2);rw[G0 (by simp[h1,h2])]at e;have F:=F3 hg q1 q2;refine sb [.tmp 2] Tryz.func326 ?_;intro Q hQ;refine wk F ?_;refine kq F (n7 G e hs hg) ?_;refine ee hQ F ?_;exact bi (fun _=>.int _ _)
theorem Rdr.off_bd{r:Rdr}{c:Bool}: -400000≤(r.off c).1∧(r.off c).1≤400000:=by
 have h10:(10:Int)^2=100:=rfl;have k:∀q:Rdr,0≤(q.digits 2).1∧(q.digits 2).1<100:=fun q=>by
  have:=bw (r:=q) (w:=2) (n:=(q.digits 2).1) (r':=(q.digits 2).2) rfl;rw[h10]at this;exact this
 unfold Rdr.off;simp only[];have a:=k (r.sign [43,45]).2;cases c
 ·have b:=k ((r.sign [43,45]).2.digits 2).2;simp only[I7,if_false];split<;>omega
 ·have b:=k ((((r.sign [43,45]).2.digits 2).2.sign [58]).2);simp only[if_true];split<;>omega
theorem Rdr.zone_bd{r:Rdr}: -400000≤(r.zone).1∧(r.zone).1≤400000:=by
 unfold Rdr.zone;split
 ·omega
 ·exact Rdr.off_bd
theorem oY{x:Dt}(h:okD x=true): -100000000000≤momD x∧momD x≤300000000000:=by
 obtain⟨k1,k2,k3,k4,k5,k6,k7,k8,k9,k10,k11,k12⟩:=mZ h;have hb:=kC ⟨k1,k2⟩ ⟨k3,k4⟩ ⟨k5,k6⟩;unfold momD;omega
theorem lz{s:Bs}{b:Bool}(x:Dt)(z:Int)(hz: -400000≤z∧z≤400000){H:Heap}{p:Nat}(hg:getRow H p 0=some (309,2,[.agg [.str s,.bool b]])):
  Sat (CT G) 325 [.hp p 0 0 0,x.av,.int .i64 z] H (fun r h'=>r=.tup [.int .i64 (((Rdr.mk s b).told x z).getD 0),.int .i64 (if ((Rdr.mk s b).told x z).isSome then 0 else 40)]∧h'=H):=by
 have hp:=aw hg;have hgj:∀j,getRow (H++j) p 0=some (309,2,[.agg [.str s,.bool b]]):=fun j=>by rw[bO _ hp];exact hg
 have hM:=uL G x;have clo:∀(N:Nat) (a c:Int),Clo N (.tup [.int .i64 a,.int .i64 c]):=fun N a c=>.tup _ (fun x hx=>by simp only[J6,O7,or_false]at hx;rcases hx with rfl|rfl<;>exact .int _ _)
 unfold Rdr.told tellD;simp only[];cases b with
 |true=>
  obtain⟨y,m,d,hh,i,c⟩:=x;simp only[Dt.av_eq,L0,if_true]at*;have F:=hgj;refine sb [.tmp 6,.tmp 7] Tryz.func325 ?_;intro Q hQ;refine wk F ?_;refine kq F (hM _) ?_;refine ee hQ F ?_;exact H3 (clo _ _ _) ⟨rfl,rfl⟩
 |false=>
  by_cases h0:s=[]
  rotate_left
  ·have q0:(s==([]:Bs))=false:=(by simpa using h0);have e0:decide (s≠ [])=true:=(by simpa using h0);rw[e0];obtain⟨y,m,d,hh,i,c⟩:=x;simp only[Dt.av_eq,T6,if_true]at*;have F:=F2 hgj q0;refine sb [.tmp 6,.tmp 7] Tryz.func325 ?_;intro Q hQ;refine wk F ?_;refine kq F (hM _) ?_;refine ee hQ F ?_;exact H3 (clo _ _ _) ⟨rfl,rfl⟩
  subst h0;have q0:(([]:Bs)==[])=true:=rfl;have e0:decide (([]:Bs)≠ [])=false:=rfl;rw[e0];cases hk:okD x with
  |false=>
   rw[hk]at hM;obtain⟨y,m,d,hh,i,c⟩:=x;simp only[Dt.av_eq]at*;have F:=F2 hgj q0;refine sb [.tmp 6,.tmp 7] Tryz.func325 ?_;intro Q hQ;refine wk F ?_;refine kq F (hM _) ?_;refine ee hQ F ?_;exact H3 (clo _ _ _) ⟨rfl,rfl⟩
  |true=>
   rw[hk]at hM;have hb:=oY hk;have hW:=cC G (momD x-z) (-62135596800) 253402300799;rw[show(decide (-62135596800≤momD x-z)&&decide (momD x-z≤253402300799))=inM (momD x-z)from rfl]at hW;generalize momD x=n at*;cases hi:inM (n-z)with
   |false=>
    rw[hi]at hW;obtain⟨y,m,d,hh,i,c⟩:=x;simp only[Dt.av_eq]at*;have F:=F2 hgj q0;refine sb [.tmp 6,.tmp 7] Tryz.func325 ?_;intro Q hQ;refine wk F ?_;refine kq F (hM _) ?_;refine kq F (hW _) ?_;refine ee hQ F ?_;exact H3 (clo _ _ _) ⟨rfl,rfl⟩
   |true=>
    rw[hi]at hW;obtain⟨y,m,d,hh,i,c⟩:=x;simp only[Dt.av_eq]at*;have F:=F2 hgj q0;refine sb [.tmp 6,.tmp 7] Tryz.func325 ?_;intro Q hQ;refine wk F ?_;refine kq F (hM _) ?_;refine kq F (hW _) ?_;refine ee hQ F ?_;exact H3 (clo _ _ _) ⟨rfl,rfl⟩
theorem sy(y:Int)(hy:0≤y)(h:Heap):Sat (CT G) 315 [.int .i64 y] h (fun r h'=>r=.bool (leapF y)∧h'=h):=by
 unfold leapF;by_cases a:y%4=0
 ·have a1:(y%4==0)=true:=by simp[a]
  by_cases b:y%100=0
  ·have b1:(y%100 !=0)=false:=(by simp[b]);have F:=F4 a1 b1 @co hy;refine sb [.tmp 2] Tryz.func315 ?_;intro Q hQ;refine wk F ?_;refine ee hQ F ?_;exact I8 (.bool _) ⟨by simp[a,b];rfl,rfl⟩
  ·have b1:(y%100 !=0)=true:=(by simp[b]);have F:=F4 a1 b1 @co hy;refine sb [.tmp 2] Tryz.func315 ?_;intro Q hQ;refine wk F ?_;refine ee hQ F ?_;exact I8 (.bool _) ⟨by simp[a,b],rfl⟩
 ·have a1:(y%4==0)=false:=by simp[a]
  have c1:(y%400==0)=false:=by simp;omega
  have F:=F4 a1 c1 @co hy;refine sb [.tmp 2] Tryz.func315 ?_;intro Q hQ;refine wk F ?_;refine ee hQ F ?_;exact I8 (.bool _) ⟨by simp[a],rfl⟩
theorem lA(y m:Int)(h:Heap):Sat (CT G) 292 [.int .i64 y,.int .i64 m] h (fun r h'=>r=.int .i64 (daysF y m)∧h'=h):=by
 by_cases y1:y<1
 ·have e:daysF y m=0:=by unfold daysF;rw[G3 (by omega)]
  have q:=G8 y1;have F:=q;refine sb [.tmp 4] Tryz.func292 ?_;intro Q hQ;refine wk F ?_;refine ee hQ F ?_;exact I8 (.int _ _) ⟨by rw[e],rfl⟩
 have q1:=G7 y1;by_cases y2:y>9999
 ·have e:daysF y m=0:=by unfold daysF;rw[G3 (by omega)]
  have q:=G8 y2;have F:=F2 q1 q;refine sb [.tmp 4] Tryz.func292 ?_;intro Q hQ;refine wk F ?_;refine ee hQ F ?_;exact I8 (.int _ _) ⟨by rw[e],rfl⟩
 have q2:=G7 y2;by_cases m3:m=2
 ·subst m3;have hL:=sy G y (by omega);have e:daysF y 2=if leapF y then 29 else 28:=by unfold daysF;rw[G0 (by omega),G3 rfl]
  cases hl:leapF y with
  |true=>
   rw[hl]at hL e;have F:=F2 q1 q2;refine sb [.tmp 4] Tryz.func292 ?_;intro Q hQ;refine wk F ?_;refine kq F (hL _) ?_;refine ee hQ F ?_;exact I8 (.int _ _) ⟨by rw[e];rfl,rfl⟩
  |false=>
   rw[hl]at hL e;have F:=F2 q1 q2;refine sb [.tmp 4] Tryz.func292 ?_;intro Q hQ;refine wk F ?_;refine kq F (hL _) ?_;refine ee hQ F ?_;exact I8 (.int _ _) ⟨by rw[e];rfl,rfl⟩
 have q3:(m==2)=false:=by simpa using m3
 by_cases mo:m<1∨12<m
 ·have e:daysF y m=0:=by unfold daysF;rw[G3 (by omega)]
  have k:∀c:Int,1≤c∧c≤12→(m==c)=false:=fun c hc=>by simp;omega
  have k1:=k 1 (by omega);have k3:=k 3 (by omega);have k4:=k 4 (by omega);have k5:=k 5 (by omega);have k6:=k 6 (by omega);have k7:=k 7 (by omega);have k8:=k 8 (by omega);have k9:=k 9 (by omega);have k10:=k 10 (by omega);have k11:=k 11 (by omega);have k12:=k 12 (by omega);have F:=F2 (F9 q1 q2 q3 k1 k3 k4 k5 k6 k7) (F5 k8 k9 k10 k11 k12);refine sb [.tmp 4] Tryz.func292 ?_;intro Q hQ;refine wk F ?_;refine ee hQ F ?_;exact I8 (.int _ _) ⟨by rw[e],rfl⟩
 ·have e:daysF y m=if m=4∨m=6∨m=9∨m=11 then 30 else 31:=by unfold daysF;rw[G0 (by omega),G0 m3]
  rw[e];have hm:m=1∨m=3∨m=4∨m=5∨m=6∨m=7∨m=8∨m=9∨m=10∨m=11∨m=12:=by omega
  clear e mo m3 q3;rcases hm with rfl|rfl|rfl|rfl|rfl|rfl|rfl|rfl|rfl|rfl|rfl;all_goals (
   have F:=F2 q1 q2;refine sb [.tmp 4] Tryz.func292 ?_;intro Q hQ;refine wk F ?_;refine ee hQ F ?_;exact I8 (.int _ _) ⟨rfl,rfl⟩)
theorem o8(x:Dt)(h:Heap):Sat (CT G) 313 [x.av] h (fun r h'=>r=.bool (okD x)∧h'=h):=by
 have hD:=lA G x.y x.m;rw[sv];obtain⟨y,m,d,hh,i,s⟩:=x;rw[Dt.av_eq];simp only[]at*;generalize daysF y m=dd at*;by_cases c1:1≤d
 rotate_left
 ·have q:decide (d≥1)=false:=by simpa using c1
  have F:=q;refine sb [.tmp 2] Tryz.func313 ?_;intro Q hQ;refine wk F ?_;refine ee hQ F ?_;exact H3 (.bool _) ⟨by simp[c1],rfl⟩
 have q1:decide (d≥1)=true:=by simpa using c1
 by_cases c2:d≤dd
 rotate_left
 ·have q:=G7 c2;have F:=F2 q1 q;refine sb [.tmp 2] Tryz.func313 ?_;intro Q hQ;refine wk F ?_;refine aa (hD _) ?_;try refine sq F ?_
  refine wk F ?_;refine ee hQ F ?_;exact H3 (.bool _) ⟨by simp[c2],rfl⟩
 have q2:=G8 c2;by_cases c3:0≤hh
 rotate_left
 ·have q:decide (hh≥0)=false:=by simpa using c3
  have F:=F3 q1 q2 q;refine sb [.tmp 2] Tryz.func313 ?_;intro Q hQ;refine wk F ?_;refine aa (hD _) ?_;try refine sq F ?_
  refine wk F ?_;refine ee hQ F ?_;exact H3 (.bool _) ⟨by simp[c3],rfl⟩
 have q3:decide (hh≥0)=true:=by simpa using c3
 by_cases c4:hh≤23
 rotate_left
 ·have q:=G7 c4;have F:=F4 q1 q2 q3 q;refine sb [.tmp 2] Tryz.func313 ?_;intro Q hQ;refine wk F ?_;refine aa (hD _) ?_;try refine sq F ?_
  refine wk F ?_;refine ee hQ F ?_;exact H3 (.bool _) ⟨by simp[c4],rfl⟩
 have q4:=G8 c4;by_cases c5:0≤i
 rotate_left
 ·have q:decide (i≥0)=false:=by simpa using c5
  have F:=F5 q1 q2 q3 q4 q;refine sb [.tmp 2] Tryz.func313 ?_;intro Q hQ;refine wk F ?_;refine aa (hD _) ?_;try refine sq F ?_
  refine wk F ?_;refine ee hQ F ?_;exact H3 (.bool _) ⟨by simp[c5],rfl⟩
 have q5:decide (i≥0)=true:=by simpa using c5
 by_cases c6:i≤59
 rotate_left
 ·have q:=G7 c6;have F:=F6 q1 q2 q3 q4 q5 q;refine sb [.tmp 2] Tryz.func313 ?_;intro Q hQ;refine wk F ?_;refine aa (hD _) ?_;try refine sq F ?_
  refine wk F ?_;refine ee hQ F ?_;exact H3 (.bool _) ⟨by simp[c6],rfl⟩
 have q6:=G8 c6;by_cases c7:0≤s
 rotate_left
 ·have q:decide (s≥0)=false:=by simpa using c7
  have F:=F7 q1 q2 q3 q4 q5 q6 q;refine sb [.tmp 2] Tryz.func313 ?_;intro Q hQ;refine wk F ?_;refine aa (hD _) ?_;try refine sq F ?_
  refine wk F ?_;refine ee hQ F ?_;exact H3 (.bool _) ⟨by simp[c7],rfl⟩
 have q7:decide (s≥0)=true:=by simpa using c7
 have F:=F7 q1 q2 q3 q4 q5 q6 q7;refine sb [.tmp 2] Tryz.func313 ?_;intro Q hQ;refine wk F ?_;refine aa (hD _) ?_;try refine sq F ?_
 refine wk F ?_;refine ee hQ F ?_;exact H3 (.bool _) ⟨by simp[c1,c2,c3,c4,c5,c6,c7],rfl⟩
theorem qw(y:Int)(hy:1≤y∧y≤10000)(h:Heap):Sat (CT G) 291 [.int .i64 y] h (fun r h'=>r=.int .i64 (aheadF y)∧h'=h):=by
 unfold aheadF;obtain⟨y1,y2⟩:=hy;have F:=F2 @iG @co;refine sb [.tmp 2] Tryz.func291 ?_;intro Q hQ;refine wk F ?_;refine ee hQ F ?_;exact I8 (.int _ _) ⟨rfl,rfl⟩
theorem sA{y:Int}(hy:1≤y∧y≤10000):0≤aheadF y∧aheadF y≤4000000:=by unfold aheadF;omega
theorem oZ(y:Int):∀k:Nat,0≤sumD y k∧sumD y k≤31*k
 |0=>by simp[sumD]
 |k+1=>by
  have:=oZ y k;have:=j9 y (k+1:Nat);unfold sumD;omega
theorem n8(y d:Int)(k:Nat)(hy:1≤y∧y≤9999)(hk:k<12)(hd:1≤d∧d≤31)(h:Heap):Sat (CT G) 246 [.int .i64 y,.int .i64 ((k+1:Nat):Int),.int .i64 d] h (fun r h'=>r=.int .i64 (dayP y (k+1:Nat) d+719162)∧h'=h):=by
 rw[vR hy.1 hy.2 k hk];have hb:=sA (y:=y) (by omega);have hA:=qw G y (by omega);have hD:=fun m=>lA G y m
 generalize aheadF y=a at*;refine sb [.tmp 6] Tryz.func246 ?_;intro Q hQ;refine wk trivial ?_;refine kq trivial (hA _) ?_;refine lm (fun nL tL hL=>∃(j:Nat) (v:Int),k-j=nL∧h=hL∧tL 7=.int .i64 v∧tL 8=.int .i64 ((j+1:Nat):Int)∧j≤k∧v=a+d-1+sumD y j) ((fun(j:Nat) (v:Int)=>(k-j:Nat)) (0) (a+d-1)) ?_ ?_
 ·refine G9 ⟨0,a+d-1,rfl,ar,?_,?_,by omega,by simp[sumD]⟩;all_goals try exact zZz trivial
 rintro _ s2 h' ⟨j,v,rfl,rfl,e7,e8,hj,hv⟩ K2 hK2;simp only[ai,ak,Nat.reduceEqDiff, ↓reduceIte]at e7 e8;have F:=F2 e7 e8;have hs:=oZ y j;by_cases c1:j<k
 ·have q:decide (j+1<k+1)=true:=by simp;omega
  have hdl:=j9 y (j+1:Nat);have e:sumD y (j+1)=sumD y j+daysF y (j+1:Nat):=rfl;have hD1:=hD ((j+1:Nat):Int);generalize daysF y (j+1:Nat)=dd at*;have F:=F2 F q;try refine sq F ?_
  refine wk F ?_;refine kq F (hD1 _) ?_;refine hK2 _ _ _ (G9 ⟨j+1,v+dd,rfl,ar,?_,?_,by omega,by rw[e,hv];omega⟩) (by omega);all_goals try exact zZz F
 ·have q:decide (j+1<k+1)=false:=by simp;omega
  have ej:j=k:=by omega
  subst ej;have F:=F2 F q;try refine sq F ?_
  refine wk F ?_;refine ee hQ F ?_;have ev:a+d-1+sumD y j-719162+719162=v:=by omega
  rw[ev];exact I8 (.int _ _) ⟨rfl,rfl⟩
theorem lB(h:Heap):Sat (CT G) 202 [] h (fun r h'=>r=.int .i64 62135596800∧h'=h):=by
 have hd:=n8 G 1970 1 0 (by omega) (by omega) (by omega);have e:dayP 1970 ((0+1:Nat):Int) 1+719162=719162:=by decide
 rw[e]at hd;refine sb [.tmp 0] Tryz.func202 ?_;intro Q hQ;refine wk trivial ?_;refine kq trivial (hd _) ?_;refine ee hQ trivial ?_;exact I8 (.int _ _) ⟨rfl,rfl⟩
theorem lC(x:Dt)(hk:okD x=true)(h:Heap):Sat (CT G) 203 [x.av] h (fun r h'=>r=.int .i64 (momD x)∧h'=h):=by
 obtain⟨k1,k2,k3,k4,k5,k6,k7,k8,k9,k10,k11,k12⟩:=mZ hk;obtain⟨k,hkm,hk12⟩:∃k:Nat,x.m=((k+1:Nat):Int)∧k<12:=⟨(x.m-1).toNat,by omega,by omega⟩;have hd:=n8 G x.y x.d k (by omega) hk12 (by omega);have hb:=kC ⟨k1,k2⟩ ⟨k3,k4⟩ ⟨k5,k6⟩;rw[← hkm]at hd;have hz:=lB G;unfold momD;obtain⟨y,m,d,hh,i,s⟩:=x;simp only[Dt.av_eq]at*;generalize dayP y m d=dd at*;have eq9:86400*(dd+719162)+3600*hh+60*i+s-62135596800=86400*dd+3600*hh+60*i+s:=by omega
 refine sb [.tmp 2] Tryz.func203 ?_;intro Q hQ;refine wk trivial ?_;refine aa (hd _) ?_;try refine sq trivial ?_
 refine wk trivial ?_;refine aa (hz _) ?_;try refine sq trivial ?_
 refine wk trivial ?_;refine ee hQ trivial ?_;exact H3 (.int _ _) ⟨by rw[eq9],rfl⟩
theorem sB(n:Int)(h:Heap):Sat (CT G) 88 [.int .i64 n] h (fun r h'=>r=.bool (inM n)∧h'=h):=by
 have hz:=lB G;have hF:∀h,Sat (CT G) 146 [] h (fun r h'=>r=.int .i64 (-62135596800)∧h'=h):=fun h=>by
  refine sb [.tmp 0] Tryz.func146 ?_;intro Q hQ;refine wk trivial ?_;refine kq trivial (hz _) ?_;refine ee hQ trivial ?_;exact I8 (.int _ _) ⟨rfl,rfl⟩
 have hM:=lC G ⟨9999,12,31,23,59,59⟩ (by decide);have eM:momD ⟨9999,12,31,23,59,59⟩=253402300799:=by decide
 rw[eM,Dt.av_eq]at hM;have hL:∀h,Sat (CT G) 147 [] h (fun r h'=>r=.int .i64 253402300799∧h'=h):=fun h=>by
  refine sb [.tmp 0] Tryz.func147 ?_;intro Q hQ;refine wk trivial ?_;refine kq trivial (hM _) ?_;refine ee hQ trivial ?_;exact I8 (.int _ _) ⟨rfl,rfl⟩
 unfold inM;by_cases k: -62135596800≤n
 ·have k2:decide (n≥ -62135596800)=true:=by simpa using k
  have F:=k2;refine sb [.tmp 2] Tryz.func88 ?_;intro Q hQ;refine wk F ?_;refine kq F (hF _) ?_;refine kq F (hL _) ?_;refine ee hQ F ?_;exact I8 (.bool _) ⟨by simp[k],rfl⟩
 ·have k2:decide (n≥ -62135596800)=false:=by simpa using k
  have F:=k2;refine sb [.tmp 2] Tryz.func88 ?_;intro Q hQ;refine wk F ?_;refine kq F (hF _) ?_;refine ee hQ F ?_;exact I8 (.bool _) ⟨by simp[k],rfl⟩
theorem ao(N:Nat)(a:Int)(c:Bool):Clo N (.tup [.int .i64 a,.bool c]):=.tup _ (fun x hx=>by simp only[J6,O7,or_false]at hx;rcases hx with rfl|rfl;exact .int _ _;exact .bool _)
theorem ib(x:Dt)(z:Int)(hz: -400000≤z∧z≤400000)(h:Heap):Sat (CT G) 287 [x.av,.int .i64 z] h (fun r h'=>r=.tup [.int .i64 ((tellD x z).getD 0),.bool (tellD x z).isSome]∧h'=h):=by
 have hC:=o8 G x;unfold tellD;cases hk:okD x with
 |false=>
  rw[hk]at hC;obtain⟨y,m,d,hh,i,s⟩:=x;simp only[Dt.av_eq]at*;refine sb [.tmp 4,.tmp 5] Tryz.func287 ?_;intro Q hQ;refine wk trivial ?_;refine kq trivial (hC _) ?_;refine ee hQ trivial ?_;exact H3 (ao _ _ _) ⟨rfl,rfl⟩
 |true=>
  rw[hk]at hC;have hM:=lC G x hk;have hb:=oY hk;have hY:=sB G (momD x-z);generalize momD x=n at*;cases hi:inM (n-z)with
  |false=>
   rw[hi]at hY;obtain⟨y,m,d,hh,i,s⟩:=x;simp only[Dt.av_eq]at*;refine sb [.tmp 4,.tmp 5] Tryz.func287 ?_;intro Q hQ;refine wk trivial ?_;refine kq trivial (hC _) ?_;refine kq trivial (hM _) ?_;refine kq trivial (hY _) ?_;refine ee hQ trivial ?_;exact H3 (ao _ _ _) ⟨rfl,rfl⟩
  |true=>
   rw[hi]at hY;obtain⟨y,m,d,hh,i,s⟩:=x;simp only[Dt.av_eq]at*;refine sb [.tmp 4,.tmp 5] Tryz.func287 ?_;intro Q hQ;refine wk trivial ?_;refine kq trivial (hC _) ?_;refine kq trivial (hM _) ?_;refine kq trivial (hY _) ?_;refine kq trivial (hM _) ?_;refine ee hQ trivial ?_;exact H3 (ao _ _ _) ⟨rfl,rfl⟩
theorem sC(s:Bs)(h:Heap):Sat (CT G) 328 [.str s] h (fun r h'=>r=.bool (decide (s∈weekL))∧h'=h):=by
 have hm:∀x:Bs,((s==x)=true∧s=x)∨((s==x)=false∧s≠x):=fun x=>by
  by_cases e:s=x
  ·exact .inl ⟨by simp[e],e⟩
  ·exact .inr ⟨by simp[e],e⟩
 by_cases hw:s∈weekL
 ·rw[G8 hw];have:s=[77,111,110,44]∨s=[84,117,101,44]∨s=[87,101,100,44]∨s=[84,104,117,44]∨s=[70,114,105,44]∨s=[83,97,116,44]∨s=[83,117,110,44]:=by simpa [weekL]using hw
  rcases this with e|e|e|e|e|e|e
  ·have F0:s=[77,111,110,44]:=e;have a0:(s==([77,111,110,44]:Bs))=true:=(by rw[F0];rfl);have a1:(s==([84,117,101,44]:Bs))=false:=(by rw[F0];rfl);have a2:(s==([87,101,100,44]:Bs))=false:=(by rw[F0];rfl);have a3:(s==([84,104,117,44]:Bs))=false:=(by rw[F0];rfl);have a4:(s==([70,114,105,44]:Bs))=false:=(by rw[F0];rfl);have a5:(s==([83,97,116,44]:Bs))=false:=(by rw[F0];rfl);have a6:(s==([83,117,110,44]:Bs))=false:=(by rw[F0];rfl);have F:=F7 a0 a1 a2 a3 a4 a5 a6;refine sb [.tmp 2] Tryz.func328 ?_;intro Q hQ;refine wk F ?_;refine ee hQ F ?_;exact I8 (.bool _) ⟨rfl,rfl⟩
  ·have F0:s=[84,117,101,44]:=e;have a0:(s==([77,111,110,44]:Bs))=false:=(by rw[F0];rfl);have a1:(s==([84,117,101,44]:Bs))=true:=(by rw[F0];rfl);have a2:(s==([87,101,100,44]:Bs))=false:=(by rw[F0];rfl);have a3:(s==([84,104,117,44]:Bs))=false:=(by rw[F0];rfl);have a4:(s==([70,114,105,44]:Bs))=false:=(by rw[F0];rfl);have a5:(s==([83,97,116,44]:Bs))=false:=(by rw[F0];rfl);have a6:(s==([83,117,110,44]:Bs))=false:=(by rw[F0];rfl);have F:=F7 a0 a1 a2 a3 a4 a5 a6;refine sb [.tmp 2] Tryz.func328 ?_;intro Q hQ;refine wk F ?_;refine ee hQ F ?_;exact I8 (.bool _) ⟨rfl,rfl⟩
  ·have F0:s=[87,101,100,44]:=e;have a0:(s==([77,111,110,44]:Bs))=false:=(by rw[F0];rfl);have a1:(s==([84,117,101,44]:Bs))=false:=(by rw[F0];rfl);have a2:(s==([87,101,100,44]:Bs))=true:=(by rw[F0];rfl);have a3:(s==([84,104,117,44]:Bs))=false:=(by rw[F0];rfl);have a4:(s==([70,114,105,44]:Bs))=false:=(by rw[F0];rfl);have a5:(s==([83,97,116,44]:Bs))=false:=(by rw[F0];rfl);have a6:(s==([83,117,110,44]:Bs))=false:=(by rw[F0];rfl);have F:=F7 a0 a1 a2 a3 a4 a5 a6;refine sb [.tmp 2] Tryz.func328 ?_;intro Q hQ;refine wk F ?_;refine ee hQ F ?_;exact I8 (.bool _) ⟨rfl,rfl⟩
  ·have F0:s=[84,104,117,44]:=e;have a0:(s==([77,111,110,44]:Bs))=false:=(by rw[F0];rfl);have a1:(s==([84,117,101,44]:Bs))=false:=(by rw[F0];rfl);have a2:(s==([87,101,100,44]:Bs))=false:=(by rw[F0];rfl);have a3:(s==([84,104,117,44]:Bs))=true:=(by rw[F0];rfl);have a4:(s==([70,114,105,44]:Bs))=false:=(by rw[F0];rfl);have a5:(s==([83,97,116,44]:Bs))=false:=(by rw[F0];rfl);have a6:(s==([83,117,110,44]:Bs))=false:=(by rw[F0];rfl);have F:=F7 a0 a1 a2 a3 a4 a5 a6;refine sb [.tmp 2] Tryz.func328 ?_;intro Q hQ;refine wk F ?_;refine ee hQ F ?_;exact I8 (.bool _) ⟨rfl,rfl⟩
  ·have F0:s=[70,114,105,44]:=e;have a0:(s==([77,111,110,44]:Bs))=false:=(by rw[F0];rfl);have a1:(s==([84,117,101,44]:Bs))=false:=(by rw[F0];rfl);have a2:(s==([87,101,100,44]:Bs))=false:=(by rw[F0];rfl);have a3:(s==([84,104,117,44]:Bs))=false:=(by rw[F0];rfl);have a4:(s==([70,114,105,44]:Bs))=true:=(by rw[F0];rfl);have a5:(s==([83,97,116,44]:Bs))=false:=(by rw[F0];rfl);have a6:(s==([83,117,110,44]:Bs))=false:=(by rw[F0];rfl);have F:=F7 a0 a1 a2 a3 a4 a5 a6;refine sb [.tmp 2] Tryz.func328 ?_;intro Q hQ;refine wk F ?_;refine ee hQ F ?_;exact I8 (.bool _) ⟨rfl,rfl⟩
  ·have F0:s=[83,97,116,44]:=e;have a0:(s==([77,111,110,44]:Bs))=false:=(by rw[F0];rfl);have a1:(s==([84,117,101,44]:Bs))=false:=(by rw[F0];rfl);have a2:(s==([87,101,100,44]:Bs))=false:=(by rw[F0];rfl);have a3:(s==([84,104,117,44]:Bs))=false:=(by rw[F0];rfl);have a4:(s==([70,114,105,44]:Bs))=false:=(by rw[F0];rfl);have a5:(s==([83,97,116,44]:Bs))=true:=(by rw[F0];rfl);have a6:(s==([83,117,110,44]:Bs))=false:=(by rw[F0];rfl);have F:=F7 a0 a1 a2 a3 a4 a5 a6;refine sb [.tmp 2] Tryz.func328 ?_;intro Q hQ;refine wk F ?_;refine ee hQ F ?_;exact I8 (.bool _) ⟨rfl,rfl⟩
  ·have F0:s=[83,117,110,44]:=e;have a0:(s==([77,111,110,44]:Bs))=false:=(by rw[F0];rfl);have a1:(s==([84,117,101,44]:Bs))=false:=(by rw[F0];rfl);have a2:(s==([87,101,100,44]:Bs))=false:=(by rw[F0];rfl);have a3:(s==([84,104,117,44]:Bs))=false:=(by rw[F0];rfl);have a4:(s==([70,114,105,44]:Bs))=false:=(by rw[F0];rfl);have a5:(s==([83,97,116,44]:Bs))=false:=(by rw[F0];rfl);have a6:(s==([83,117,110,44]:Bs))=true:=(by rw[F0];rfl);have F:=F7 a0 a1 a2 a3 a4 a5 a6;refine sb [.tmp 2] Tryz.func328 ?_;intro Q hQ;refine wk F ?_;refine ee hQ F ?_;exact I8 (.bool _) ⟨rfl,rfl⟩
 ·rw[G7 hw];have:s≠ [77,111,110,44]∧s≠ [84,117,101,44]∧s≠ [87,101,100,44]∧s≠ [84,104,117,44]∧s≠ [70,114,105,44]∧s≠ [83,97,116,44]∧s≠ [83,117,110,44]:=by simpa [weekL]using hw
  obtain⟨a1,a2,a3,a4,a5,a6,a7⟩:=this;have f:∀{x:Bs},s≠x→(s==x)=false:=fun {x} e=>by simpa using e
  have a1:=f a1;have a2:=f a2;have a3:=f a3;have a4:=f a4;have a5:=f a5;have a6:=f a6;have a7:=f a7;have F:=F7 a1 a2 a3 a4 a5 a6 a7;refine sb [.tmp 2] Tryz.func328 ?_;intro Q hQ;refine wk F ?_;refine ee hQ F ?_;exact I8 (.bool _) ⟨rfl,rfl⟩
theorem qx(s:Bs)(h:Heap):Sat (CT G) 334 [.str s] h (fun r h'=>r=.tup [.int .i64 ((namF s).getD 0),.bool (namF s).isSome]∧h'=h):=by
 by_cases hw:s∈zonL
 ·have:s=[71,77,84]∨s=[85,84]∨s=[85,84,67]∨s=[90]∨s=[69,83,84]∨s=[69,68,84]∨s=[67,83,84]∨s=[67,68,84]∨s=[77,83,84]∨s=[77,68,84]∨s=[80,83,84]∨s=[80,68,84]:=by simpa [zonL]using hw
  rcases this with e|e|e|e|e|e|e|e|e|e|e|e
  ·have F0:s=[71,77,84]:=e;have a0:(s==([71,77,84]:Bs))=true:=(by rw[F0];rfl);have a1:(s==([85,84]:Bs))=false:=(by rw[F0];rfl);have a2:(s==([85,84,67]:Bs))=false:=(by rw[F0];rfl);have a3:(s==([90]:Bs))=false:=(by rw[F0];rfl);have a4:(s==([69,68,84]:Bs))=false:=(by rw[F0];rfl);have a5:(s==([69,83,84]:Bs))=false:=(by rw[F0];rfl);have a6:(s==([67,68,84]:Bs))=false:=(by rw[F0];rfl);have a7:(s==([67,83,84]:Bs))=false:=(by rw[F0];rfl);have a8:(s==([77,68,84]:Bs))=false:=(by rw[F0];rfl);have a9:(s==([77,83,84]:Bs))=false:=(by rw[F0];rfl);have a10:(s==([80,68,84]:Bs))=false:=(by rw[F0];rfl);have a11:(s==([80,83,84]:Bs))=false:=(by rw[F0];rfl);have F:=F2 (F9 a0 a1 a2 a3 a4 a5 a6 a7 a8) (F3 a9 a10 a11);refine sb [.tmp 2,.tmp 3] Tryz.func334 ?_;intro Q hQ;refine wk F ?_;refine ee hQ F ?_;exact I8 (ao _ _ _) ⟨by rw[F0];rfl,rfl⟩
  ·have F0:s=[85,84]:=e;have a0:(s==([71,77,84]:Bs))=false:=(by rw[F0];rfl);have a1:(s==([85,84]:Bs))=true:=(by rw[F0];rfl);have a2:(s==([85,84,67]:Bs))=false:=(by rw[F0];rfl);have a3:(s==([90]:Bs))=false:=(by rw[F0];rfl);have a4:(s==([69,68,84]:Bs))=false:=(by rw[F0];rfl);have a5:(s==([69,83,84]:Bs))=false:=(by rw[F0];rfl);have a6:(s==([67,68,84]:Bs))=false:=(by rw[F0];rfl);have a7:(s==([67,83,84]:Bs))=false:=(by rw[F0];rfl);have a8:(s==([77,68,84]:Bs))=false:=(by rw[F0];rfl);have a9:(s==([77,83,84]:Bs))=false:=(by rw[F0];rfl);have a10:(s==([80,68,84]:Bs))=false:=(by rw[F0];rfl);have a11:(s==([80,83,84]:Bs))=false:=(by rw[F0];rfl);have F:=F2 (F9 a0 a1 a2 a3 a4 a5 a6 a7 a8) (F3 a9 a10 a11);refine sb [.tmp 2,.tmp 3] Tryz.func334 ?_;intro Q hQ;refine wk F ?_;refine ee hQ F ?_;exact I8 (ao _ _ _) ⟨by rw[F0];rfl,rfl⟩
  ·have F0:s=[85,84,67]:=e;have a0:(s==([71,77,84]:Bs))=false:=(by rw[F0];rfl);have a1:(s==([85,84]:Bs))=false:=(by rw[F0];rfl);have a2:(s==([85,84,67]:Bs))=true:=(by rw[F0];rfl);have a3:(s==([90]:Bs))=false:=(by rw[F0];rfl);have a4:(s==([69,68,84]:Bs))=false:=(by rw[F0];rfl);have a5:(s==([69,83,84]:Bs))=false:=(by rw[F0];rfl);have a6:(s==([67,68,84]:Bs))=false:=(by rw[F0];rfl);have a7:(s==([67,83,84]:Bs))=false:=(by rw[F0];rfl);have a8:(s==([77,68,84]:Bs))=false:=(by rw[F0];rfl);have a9:(s==([77,83,84]:Bs))=false:=(by rw[F0];rfl);have a10:(s==([80,68,84]:Bs))=false:=(by rw[F0];rfl);have a11:(s==([80,83,84]:Bs))=false:=(by rw[F0];rfl);have F:=F2 (F9 a0 a1 a2 a3 a4 a5 a6 a7 a8) (F3 a9 a10 a11);refine sb [.tmp 2,.tmp 3] Tryz.func334 ?_;intro Q hQ;refine wk F ?_;refine ee hQ F ?_;exact I8 (ao _ _ _) ⟨by rw[F0];rfl,rfl⟩
  ·have F0:s=[90]:=e;have a0:(s==([71,77,84]:Bs))=false:=(by rw[F0];rfl);have a1:(s==([85,84]:Bs))=false:=(by rw[F0];rfl);have a2:(s==([85,84,67]:Bs))=false:=(by rw[F0];rfl);have a3:(s==([90]:Bs))=true:=(by rw[F0];rfl);have a4:(s==([69,68,84]:Bs))=false:=(by rw[F0];rfl);have a5:(s==([69,83,84]:Bs))=false:=(by rw[F0];rfl);have a6:(s==([67,68,84]:Bs))=false:=(by rw[F0];rfl);have a7:(s==([67,83,84]:Bs))=false:=(by rw[F0];rfl);have a8:(s==([77,68,84]:Bs))=false:=(by rw[F0];rfl);have a9:(s==([77,83,84]:Bs))=false:=(by rw[F0];rfl);have a10:(s==([80,68,84]:Bs))=false:=(by rw[F0];rfl);have a11:(s==([80,83,84]:Bs))=false:=(by rw[F0];rfl);have F:=F2 (F9 a0 a1 a2 a3 a4 a5 a6 a7 a8) (F3 a9 a10 a11);refine sb [.tmp 2,.tmp 3] Tryz.func334 ?_;intro Q hQ;refine wk F ?_;refine ee hQ F ?_;exact I8 (ao _ _ _) ⟨by rw[F0];rfl,rfl⟩
  ·have F0:s=[69,83,84]:=e;have a0:(s==([71,77,84]:Bs))=false:=(by rw[F0];rfl);have a1:(s==([85,84]:Bs))=false:=(by rw[F0];rfl);have a2:(s==([85,84,67]:Bs))=false:=(by rw[F0];rfl);have a3:(s==([90]:Bs))=false:=(by rw[F0];rfl);have a4:(s==([69,68,84]:Bs))=false:=(by rw[F0];rfl);have a5:(s==([69,83,84]:Bs))=true:=(by rw[F0];rfl);have a6:(s==([67,68,84]:Bs))=false:=(by rw[F0];rfl);have a7:(s==([67,83,84]:Bs))=false:=(by rw[F0];rfl);have a8:(s==([77,68,84]:Bs))=false:=(by rw[F0];rfl);have a9:(s==([77,83,84]:Bs))=false:=(by rw[F0];rfl);have a10:(s==([80,68,84]:Bs))=false:=(by rw[F0];rfl);have a11:(s==([80,83,84]:Bs))=false:=(by rw[F0];rfl);have F:=F2 (F9 a0 a1 a2 a3 a4 a5 a6 a7 a8) (F3 a9 a10 a11);refine sb [.tmp 2,.tmp 3] Tryz.func334 ?_;intro Q hQ;refine wk F ?_;refine ee hQ F ?_;exact I8 (ao _ _ _) ⟨by rw[F0];rfl,rfl⟩
  ·have F0:s=[69,68,84]:=e;have a0:(s==([71,77,84]:Bs))=false:=(by rw[F0];rfl);have a1:(s==([85,84]:Bs))=false:=(by rw[F0];rfl);have a2:(s==([85,84,67]:Bs))=false:=(by rw[F0];rfl);have a3:(s==([90]:Bs))=false:=(by rw[F0];rfl);have a4:(s==([69,68,84]:Bs))=true:=(by rw[F0];rfl);have a5:(s==([69,83,84]:Bs))=false:=(by rw[F0];rfl);have a6:(s==([67,68,84]:Bs))=false:=(by rw[F0];rfl);have a7:(s==([67,83,84]:Bs))=false:=(by rw[F0];rfl);have a8:(s==([77,68,84]:Bs))=false:=(by rw[F0];rfl);have a9:(s==([77,83,84]:Bs))=false:=(by rw[F0];rfl);have a10:(s==([80,68,84]:Bs))=false:=(by rw[F0];rfl);have a11:(s==([80,83,84]:Bs))=false:=(by rw[F0];rfl);have F:=F2 (F9 a0 a1 a2 a3 a4 a5 a6 a7 a8) (F3 a9 a10 a11);refine sb [.tmp 2,.tmp 3] Tryz.func334 ?_;intro Q hQ;refine wk F ?_;refine ee hQ F ?_;exact I8 (ao _ _ _) ⟨by rw[F0];rfl,rfl⟩
  ·have F0:s=[67,83,84]:=e;have a0:(s==([71,77,84]:Bs))=false:=(by rw[F0];rfl);have a1:(s==([85,84]:Bs))=false:=(by rw[F0];rfl);have a2:(s==([85,84,67]:Bs))=false:=(by rw[F0];rfl);have a3:(s==([90]:Bs))=false:=(by rw[F0];rfl);have a4:(s==([69,68,84]:Bs))=false:=(by rw[F0];rfl);have a5:(s==([69,83,84]:Bs))=false:=(by rw[F0];rfl);have a6:(s==([67,68,84]:Bs))=false:=(by rw[F0];rfl);have a7:(s==([67,83,84]:Bs))=true:=(by rw[F0];rfl);have a8:(s==([77,68,84]:Bs))=false:=(by rw[F0];rfl);have a9:(s==([77,83,84]:Bs))=false:=(by rw[F0];rfl);have a10:(s==([80,68,84]:Bs))=false:=(by rw[F0];rfl);have a11:(s==([80,83,84]:Bs))=false:=(by rw[F0];rfl);have F:=F2 (F9 a0 a1 a2 a3 a4 a5 a6 a7 a8) (F3 a9 a10 a11);refine sb [.tmp 2,.tmp 3] Tryz.func334 ?_;intro Q hQ;refine wk F ?_;refine ee hQ F ?_;exact I8 (ao _ _ _) ⟨by rw[F0];rfl,rfl⟩
  ·have F0:s=[67,68,84]:=e;have a0:(s==([71,77,84]:Bs))=false:=(by rw[F0];rfl);have a1:(s==([85,84]:Bs))=false:=(by rw[F0];rfl);have a2:(s==([85,84,67]:Bs))=false:=(by rw[F0];rfl);have a3:(s==([90]:Bs))=false:=(by rw[F0];rfl);have a4:(s==([69,68,84]:Bs))=false:=(by rw[F0];rfl);have a5:(s==([69,83,84]:Bs))=false:=(by rw[F0];rfl);have a6:(s==([67,68,84]:Bs))=true:=(by rw[F0];rfl);have a7:(s==([67,83,84]:Bs))=false:=(by rw[F0];rfl);have a8:(s==([77,68,84]:Bs))=false:=(by rw[F0];rfl);have a9:(s==([77,83,84]:Bs))=false:=(by rw[F0];rfl);have a10:(s==([80,68,84]:Bs))=false:=(by rw[F0];rfl);have a11:(s==([80,83,84]:Bs))=false:=(by rw[F0];rfl);have F:=F2 (F9 a0 a1 a2 a3 a4 a5 a6 a7 a8) (F3 a9 a10 a11);refine sb [.tmp 2,.tmp 3] Tryz.func334 ?_;intro Q hQ;refine wk F ?_;refine ee hQ F ?_;exact I8 (ao _ _ _) ⟨by rw[F0];rfl,rfl⟩
  ·have F0:s=[77,83,84]:=e;have a0:(s==([71,77,84]:Bs))=false:=(by rw[F0];rfl);have a1:(s==([85,84]:Bs))=false:=(by rw[F0];rfl);have a2:(s==([85,84,67]:Bs))=false:=(by rw[F0];rfl);have a3:(s==([90]:Bs))=false:=(by rw[F0];rfl);have a4:(s==([69,68,84]:Bs))=false:=(by rw[F0];rfl);have a5:(s==([69,83,84]:Bs))=false:=(by rw[F0];rfl);have a6:(s==([67,68,84]:Bs))=false:=(by rw[F0];rfl);have a7:(s==([67,83,84]:Bs))=false:=(by rw[F0];rfl);have a8:(s==([77,68,84]:Bs))=false:=(by rw[F0];rfl);have a9:(s==([77,83,84]:Bs))=true:=(by rw[F0];rfl);have a10:(s==([80,68,84]:Bs))=false:=(by rw[F0];rfl);have a11:(s==([80,83,84]:Bs))=false:=(by rw[F0];rfl);have F:=F2 (F9 a0 a1 a2 a3 a4 a5 a6 a7 a8) (F3 a9 a10 a11);refine sb [.tmp 2,.tmp 3] Tryz.func334 ?_;intro Q hQ;refine wk F ?_;refine ee hQ F ?_;exact I8 (ao _ _ _) ⟨by rw[F0];rfl,rfl⟩
  ·have F0:s=[77,68,84]:=e;have a0:(s==([71,77,84]:Bs))=false:=(by rw[F0];rfl);have a1:(s==([85,84]:Bs))=false:=(by rw[F0];rfl);have a2:(s==([85,84,67]:Bs))=false:=(by rw[F0];rfl);have a3:(s==([90]:Bs))=false:=(by rw[F0];rfl);have a4:(s==([69,68,84]:Bs))=false:=(by rw[F0];rfl);have a5:(s==([69,83,84]:Bs))=false:=(by rw[F0];rfl);have a6:(s==([67,68,84]:Bs))=false:=(by rw[F0];rfl);have a7:(s==([67,83,84]:Bs))=false:=(by rw[F0];rfl);have a8:(s==([77,68,84]:Bs))=true:=(by rw[F0];rfl);have a9:(s==([77,83,84]:Bs))=false:=(by rw[F0];rfl);have a10:(s==([80,68,84]:Bs))=false:=(by rw[F0];rfl);have a11:(s==([80,83,84]:Bs))=false:=(by rw[F0];rfl);have F:=F2 (F9 a0 a1 a2 a3 a4 a5 a6 a7 a8) (F3 a9 a10 a11);refine sb [.tmp 2,.tmp 3] Tryz.func334 ?_;intro Q hQ;refine wk F ?_;refine ee hQ F ?_;exact I8 (ao _ _ _) ⟨by rw[F0];rfl,rfl⟩
  ·have F0:s=[80,83,84]:=e;have a0:(s==([71,77,84]:Bs))=false:=(by rw[F0];rfl);have a1:(s==([85,84]:Bs))=false:=(by rw[F0];rfl);have a2:(s==([85,84,67]:Bs))=false:=(by rw[F0];rfl);have a3:(s==([90]:Bs))=false:=(by rw[F0];rfl);have a4:(s==([69,68,84]:Bs))=false:=(by rw[F0];rfl);have a5:(s==([69,83,84]:Bs))=false:=(by rw[F0];rfl);have a6:(s==([67,68,84]:Bs))=false:=(by rw[F0];rfl);have a7:(s==([67,83,84]:Bs))=false:=(by rw[F0];rfl);have a8:(s==([77,68,84]:Bs))=false:=(by rw[F0];rfl);have a9:(s==([77,83,84]:Bs))=false:=(by rw[F0];rfl);have a10:(s==([80,68,84]:Bs))=false:=(by rw[F0];rfl);have a11:(s==([80,83,84]:Bs))=true:=(by rw[F0];rfl);have F:=F2 (F9 a0 a1 a2 a3 a4 a5 a6 a7 a8) (F3 a9 a10 a11);refine sb [.tmp 2,.tmp 3] Tryz.func334 ?_;intro Q hQ;refine wk F ?_;refine ee hQ F ?_;exact I8 (ao _ _ _) ⟨by rw[F0];rfl,rfl⟩
  ·have F0:s=[80,68,84]:=e;have a0:(s==([71,77,84]:Bs))=false:=(by rw[F0];rfl);have a1:(s==([85,84]:Bs))=false:=(by rw[F0];rfl);have a2:(s==([85,84,67]:Bs))=false:=(by rw[F0];rfl);have a3:(s==([90]:Bs))=false:=(by rw[F0];rfl);have a4:(s==([69,68,84]:Bs))=false:=(by rw[F0];rfl);have a5:(s==([69,83,84]:Bs))=false:=(by rw[F0];rfl);have a6:(s==([67,68,84]:Bs))=false:=(by rw[F0];rfl);have a7:(s==([67,83,84]:Bs))=false:=(by rw[F0];rfl);have a8:(s==([77,68,84]:Bs))=false:=(by rw[F0];rfl);have a9:(s==([77,83,84]:Bs))=false:=(by rw[F0];rfl);have a10:(s==([80,68,84]:Bs))=true:=(by rw[F0];rfl);have a11:(s==([80,83,84]:Bs))=false:=(by rw[F0];rfl);have F:=F2 (F9 a0 a1 a2 a3 a4 a5 a6 a7 a8) (F3 a9 a10 a11);refine sb [.tmp 2,.tmp 3] Tryz.func334 ?_;intro Q hQ;refine wk F ?_;refine ee hQ F ?_;exact I8 (ao _ _ _) ⟨by rw[F0];rfl,rfl⟩
 ·have e:namF s=none:=by
   unfold namF;have:zonL.findIdx? (fun x=>decide (x=s))=none:=by
    rw[R3];intro x hx;have:x≠s:=fun k=>hw (k▸hx)
    simpa using this
   rw[this]
  rw[e];have:s≠ [71,77,84]∧s≠ [85,84]∧s≠ [85,84,67]∧s≠ [90]∧s≠ [69,83,84]∧s≠ [69,68,84]∧s≠ [67,83,84]∧s≠ [67,68,84]∧s≠ [77,83,84]∧s≠ [77,68,84]∧s≠ [80,83,84]∧s≠ [80,68,84]:=by simpa [zonL]using hw
  obtain⟨a1,a2,a3,a4,a5,a6,a7,a8,a9,b1,b2,b3⟩:=this;have f:∀{x:Bs},s≠x→(s==x)=false:=fun {x} e=>by simpa using e
  have a1:=f a1;have a2:=f a2;have a3:=f a3;have a4:=f a4;have a5:=f a5;have a6:=f a6;have a7:=f a7;have a8:=f a8;have a9:=f a9;have b1:=f b1;have b2:=f b2;have b3:=f b3;have F:=F2 (F9 a1 a2 a3 a4 a5 a6 a7 a8 a9) (F3 b1 b2 b3);refine sb [.tmp 2,.tmp 3] Tryz.func334 ?_;intro Q hQ;refine wk F ?_;refine ee hQ F ?_;exact I8 (ao _ _ _) ⟨rfl,rfl⟩
theorem uM{s s':Bs}{b b':Bool}{n:Int}(e:(Rdr.mk s b).all=(n,⟨s',b'⟩))(hs:s.length≤9){H:Heap}{p:Nat}(hg:getRow H p 0=some (309,2,[.agg [.str s,.bool b]])):
  Sat (CT G) 330 [.hp p 0 0 0] H (fun r h'=>r=.int .i64 n∧h'=H.set p (dR s' b')):=by
 have hp:=aw hg;have S:=bc G (w:=s.length) e hs (by omega) hg;have F:=hg;refine sb [.tmp 2] Tryz.func330 ?_;intro Q hQ;refine wk F ?_;refine kq F (S) ?_;refine ee hQ F ?_;exact bi (fun _=>.int _ _)
theorem uN{s s':Bs}{b b':Bool}{n:Int}(e:(Rdr.mk s b).off false=(n,⟨s',b'⟩))(hs:s.length≤1073741824){H:Heap}{p:Nat}(hg:getRow H p 0=some (309,2,[.agg [.str s,.bool b]])):
  Sat (CT G) 335 [.hp p 0 0 0] H (fun r h'=>r=.int .i64 n∧h'=H.set p (dR s' b')):=by
 have hp:=aw hg;have S:=n7 G e hs hg;have F:=hg;refine sb [.tmp 2] Tryz.func335 ?_;intro Q hQ;refine wk F ?_;refine kq F (S) ?_;refine ee hQ F ?_;exact bi (fun _=>.int _ _)
theorem sD{s s':Bs}{b b':Bool}{n:Int}(e:(Rdr.mk s b).year=(n,⟨s',b'⟩))(hs:s.length≤1073741824){H:Heap}{p:Nat}(hg:getRow H p 0=some (309,2,[.agg [.str s,.bool b]])):
  Sat (CT G) 332 [.hp p 0 0 0] H (fun r h'=>r=.int .i64 n∧h'=H.set p (dR s' b')):=by
 have hp:=aw hg;unfold Rdr.year at e;by_cases h2:s.length=2
 ·have q:((s.length:Int) !=2)=false:=by rw[h2];rfl
  rcases e1:(Rdr.mk s b).digits 2 with⟨m,s1,b1⟩;have e:(if 50≤m then 1900+m else 2000+m,Rdr.mk s1 b1)=(n,⟨s',b'⟩):=by
   rw[← e];simp only[h2,if_true,e1]
  have hb:=bw e1;have h10:(10:Int)^2=100:=rfl;rw[h10]at hb;have S:=bc G e1 (by omega) hs hg;by_cases c:50≤m
  ·rw[G3 c]at e;cases e;have d:decide (m≥50)=true:=G8 c;have F:=F3 hg q d;refine sb [.tmp 2] Tryz.func332 ?_;intro Q hQ;refine wk F ?_;refine kq F (S) ?_;refine ee hQ F ?_;exact bi (fun _=>.int _ _)
  ·rw[G0 c]at e;cases e;have d:decide (m≥50)=false:=G7 c;have F:=F3 hg q d;refine sb [.tmp 2] Tryz.func332 ?_;intro Q hQ;refine wk F ?_;refine kq F (S) ?_;refine ee hQ F ?_;exact bi (fun _=>.int _ _)
 ·have q:((s.length:Int) !=2)=true:=by simp only[bne_iff_ne,ne_eq];omega
  have e:(Rdr.mk s b).digits 4=(n,⟨s',b'⟩):=by
   rw[← e];exact(G0 h2).symm
  have S:=bc G e (by omega) hs hg;have F:=F2 hg q;refine sb [.tmp 2] Tryz.func332 ?_;intro Q hQ;refine wk F ?_;refine kq F (S) ?_;refine ee hQ F ?_;exact bi (fun _=>.int _ _)
theorem qy{s s':Bs}{b b':Bool}{n:Int}(e:(Rdr.mk s b).clock=(n,⟨s',b'⟩))(hs:s.length≤1073741824){H:Heap}{p:Nat}(hg:getRow H p 0=some (309,2,[.agg [.str s,.bool b]])):
  Sat (CT G) 333 [.hp p 0 0 0] H (fun r h'=>r=.int .i64 n∧h'=H.set p (dR s' b')):=by
 have hp:=aw hg;have hgs:∀s b,getRow (H.set p (dR s b)) p 0=some (309,2,[.agg [.str s,.bool b]]):=fun s b=>by rw[bV _ _ _ _ _ hp];rfl
 rcases e1:(Rdr.mk s b).digits 2 with⟨hh,s1,b1⟩;rcases e2:(Rdr.mk s1 b1).sign [58]with⟨x2,s2,b2⟩;rcases e3:(Rdr.mk s2 b2).digits 2 with⟨m,s3,b3⟩;have l1:s1.length≤s.length:=by
  have:=Rdr.digits_le (r:=⟨s,b⟩) (w:=2);rw[e1]at this;exact this
 have l2:s2.length≤s1.length:=by
  have:=Rdr.sign_le (r:=⟨s1,b1⟩) (l:=[58]);rw[e2]at this;exact this
 have l3:s3.length≤s2.length:=by
  have:=Rdr.digits_le (r:=⟨s2,b2⟩) (w:=2);rw[e3]at this;exact this
 have hb1:=bw e1;have hb3:=bw e3;have h10:(10:Int)^2=100:=rfl;rw[h10]at hb1 hb3;have S1:=bc G e1 (by omega) hs hg;have S2:=dT G e2 (hgs s1 b1);have S3:=bc G e3 (by omega) (by omega) (hgs s2 b2);rw[T9]at S2 S3;have fin:∀x:Int,Fin H (H.set p (dR s' b')) (fun r h'=>r=.int .i64 x∧h'=H.set p (dR s' b')) (.int .i64 x):=fun x=>bi (fun _=>.int _ _)
 by_cases h3:s3=[]
 ·have q0:(s3==([]:Bs))=true:=by simp[h3]
  have ec:((3600*hh+60*m+0:Int),Rdr.mk s3 (b3||(decide (hh>23)||(decide (m>59)||false))))=(n,⟨s',b'⟩):=by
   rw[← e];unfold Rdr.clock;simp only[e1,e2,e3];simp[h3]
  cases ec;generalize q1:decide (hh>23)=d1 at*;generalize q2:decide (m>59)=d2 at*;have q3:decide ((0:Int)>59)=false:=rfl;have dt:∀i:Decidable True, @decide True i=true:=fun i=>by simp
  have df:∀i:Decidable False, @decide False i=false:=fun i=>by simp
  have hw:=hgs s' b3;cases b3<;>cases d1<;>cases d2<;>(
   have F:=F8 hg q0 q1 q2 dt df hw (@T9 Blk);refine sb [.tmp 2] Tryz.func333 ?_;intro Q hQ;refine wk F ?_;refine kq F (S1) ?_;refine kq F (S2) ?_;refine kq F (S3) ?_;refine ee hQ F ?_;exact fin _)
 ·have q0:(s3==([]:Bs))=false:=by simpa using h3
  rcases e4:(Rdr.mk s3 b3).sign [58]with⟨x4,s4,b4⟩;rcases e5:(Rdr.mk s4 b4).digits 2 with⟨c,s5,b5⟩;have l4:s4.length≤s3.length:=by
   have:=Rdr.sign_le (r:=⟨s3,b3⟩) (l:=[58]);rw[e4]at this;exact this
  have hb5:=bw e5;rw[h10]at hb5;have S4:=dT G e4 (hgs s3 b3);have S5:=bc G e5 (by omega) (by omega) (hgs s4 b4);rw[T9]at S4 S5;have ec:((3600*hh+60*m+c:Int),Rdr.mk s5 (b5||(decide (hh>23)||(decide (m>59)||decide (c>59)))))=(n,⟨s',b'⟩):=by
   rw[← e];unfold Rdr.clock;simp only[e1,e2,e3,G0 h3,e4,e5]
  cases ec;generalize q1:decide (hh>23)=d1 at*;generalize q2:decide (m>59)=d2 at*;generalize q3:decide (c>59)=d3 at*;have hw0:=hgs s3 b3;have hw:=hgs s' b5;cases b5<;>cases d1<;>cases d2<;>cases d3<;>(
   have F:=F8 hg q0 q1 q2 q3 hw0 hw (@T9 Blk);refine sb [.tmp 2] Tryz.func333 ?_;intro Q hQ;refine wk F ?_;refine kq F (S1) ?_;refine kq F (S2) ?_;refine kq F (S3) ?_;refine kq F (S4) ?_;refine kq F (S5) ?_;refine ee hQ F ?_;exact fin _)
theorem Rdr.point_le{r:Rdr}:r.point.s.length≤r.s.length:=by
 unfold Rdr.point;split
 ·rename_i h;rw[h];simp;omega
 ·exact H5 _
theorem jP{C:Ctx}{ops:Array Oper}{x:Operand}{i:Nat}{ty:TypeId}{pos:String}{aft:Array Edge}{dst:Option Tmp}{t:Env}{h:Heap}{vs:List AVal}{v:AVal}{K:AVal→Heap→Prop}(hx:aev C.G t x=.tup vs)(hv:vs[i]? =some v)(hk:K v h):
  wpOperV C ops ⟨dst,.extract x i,ty,pos,aft,none⟩ t h K:=by
 show(match aev C.G t x with| .tup vs=>need vs[i]? (K · h)|_=>False);rw[hx];show need vs[i]? (K · h);rw[hv];exact hk
theorem ch(N:Nat)(a c:Int):Clo N (.tup [.int .i64 a,.int .i64 c]):=.tup _ (fun x hx=>by simp only[J6,O7,or_false]at hx;rcases hx with rfl|rfl<;>exact .int _ _)
theorem p8(s:Bs)(hs:s.length≤1073741824)(h:Heap):Sat (CT G) 301 [.str s] h (fun r h'=>r=.tup [.int .i64 ((webP s).getD 0),.int .i64 (if (webP s).isSome then 0 else 40)]∧h'=h):=by
 rcases e1:(Rdr.mk s false).digits 4 with⟨y,s1,b1⟩;rcases e2:(Rdr.mk s1 b1).sign [45]with⟨x2,s2,b2⟩;rcases e3:(Rdr.mk s2 b2).digits 2 with⟨m,s3,b3⟩;rcases e4:(Rdr.mk s3 b3).sign [45]with⟨x4,s4,b4⟩;rcases e5:(Rdr.mk s4 b4).digits 2 with⟨d,s5,b5⟩;rcases e6:(Rdr.mk s5 b5).sign [84,116]with⟨x6,s6,b6⟩;rcases e7:(Rdr.mk s6 b6).digits 2 with⟨hh,s7,b7⟩;rcases e8:(Rdr.mk s7 b7).sign [58]with⟨x8,s8,b8⟩;rcases e9:(Rdr.mk s8 b8).digits 2 with⟨i,s9,b9⟩;rcases e10:(Rdr.mk s9 b9).sign [58]with⟨x10,s10,b10⟩;rcases e11:(Rdr.mk s10 b10).digits 2 with⟨c,s11,b11⟩;rcases e12:(Rdr.mk s11 b11).point with⟨s12,b12⟩;rcases e13:(Rdr.mk s12 b12).zone with⟨z,s13,b13⟩;have ew:webP s=(Rdr.mk s13 b13).told ⟨y,m,d,hh,i,c⟩ z:=by
  unfold webP;simp only[e1,e2,e3,e4,e5,e6,e7,e8,e9,e10,e11,e12,e13]
 have dl:∀{s s':Bs} {b b':Bool} {w:Nat} {n:Int},(Rdr.mk s b).digits w=(n,⟨s',b'⟩)→s'.length≤s.length:=fun {s s' b b' w n} e=>by
  have:=Rdr.digits_le (r:=⟨s,b⟩) (w:=w);rw[e]at this;exact this
 have sl:∀{s s':Bs} {b b':Bool} {l:Bs} {n:Int},(Rdr.mk s b).sign l=(n,⟨s',b'⟩)→s'.length≤s.length:=fun {s s' b b' l n} e=>by
  have:=Rdr.sign_le (r:=⟨s,b⟩) (l:=l);rw[e]at this;exact this
 have l1:=dl e1;have l2:=sl e2;have l3:=dl e3;have l4:=sl e4;have l5:=dl e5;have l6:=sl e6;have l7:=dl e7;have l8:=sl e8;have l9:=dl e9;have l10:=sl e10;have l11:=dl e11;have l12:s12.length≤s11.length:=by
  have:=Rdr.point_le (r:=⟨s11,b11⟩);rw[e12]at this;exact this
 have hz: -400000≤z∧z≤400000:=by
  have:=Rdr.zone_bd (r:=⟨s12,b12⟩);rw[e13]at this;exact this
 have hg:∀(s:Bs) (b:Bool) (j:Heap),getRow (h++dR s b::j) h.length 0=some (309,2,[.agg [.str s,.bool b]]):=fun s b j=>by rw[bL _ rfl];rfl
 have hT:=fun(b:Bool) (s:Bs) (j:Heap)=>lz G (s:=s) (b:=b) ⟨y,m,d,hh,i,c⟩ z hz (hg s b j)
 have hD:∀{s s':Bs} {b b':Bool} {w:Nat} {n:Int},(Rdr.mk s b).digits w=(n,⟨s',b'⟩)→w≤9→s.length≤1073741824→∀j:Heap,Sat (CT G) 322 [.hp h.length 0 0 0,.int .i64 w] (h++dR s b::j) (fun r h'=>r=.int .i64 n∧h'=h++dR s' b'::j):=fun {s s' b b' w n} e hw hl j=>by
  have:=bc G e hw hl (hg s b j);rw[eO _ rfl,Q5]at this;exact this
 have hS:∀{s s':Bs} {b b':Bool} {l:Bs} {n:Int},(Rdr.mk s b).sign l=(n,⟨s',b'⟩)→∀j:Heap,Sat (CT G) 323 [.hp h.length 0 0 0,.str l] (h++dR s b::j) (fun r h'=>r=.int .u8 n∧h'=h++dR s' b'::j):=fun {s s' b b' l n} e j=>by
  have:=dT G e (hg s b j);rw[eO _ rfl,Q5]at this;exact this
 have hP:=fun(j:Heap)=>qt G e12 (by omega) (hg s11 b11 j)
 have hZ:=fun(j:Heap)=>sx G e13 (by omega) (hg s12 b12 j)
 simp only[eO _ rfl,Q5]at hP hZ;rw[ew];simp only[Dt.av_eq]at hT
 skip
 refine sb [.tmp 2,.tmp 3] Tryz.func301 ?_;intro Q hQ;refine wn trivial ?_;refine kn trivial (hD e1 (by omega) (by omega) _) ?_;refine kn trivial (hS e2 _) ?_;refine kn trivial (hD e3 (by omega) (by omega) _) ?_;refine kn trivial (hS e4 _) ?_;refine kn trivial (hD e5 (by omega) (by omega) _) ?_;refine kn trivial (hS e6 _) ?_;refine kn trivial (hD e7 (by omega) (by omega) _) ?_;refine kn trivial (hS e8 _) ?_;refine kn trivial (hD e9 (by omega) (by omega) _) ?_;refine kn trivial (hS e10 _) ?_;refine kn trivial (hD e11 (by omega) (by omega) _) ?_;refine kn trivial (hP _) ?_;refine bJ 7 [3,4,5,6] [true,true,true,false,false,false,false] (.one 3 [false,true] (.one 4 [] (.two 5 [] (.one 6 [] .fin) 6 [] (.one 5 [] .fin)))) (by decide+kernel) (by kernel_rfl) (by decide+kernel) ?_;simp only[bX,bY,bz];try refine sq trivial ?_
 repeat' ((first|refine az ?_|refine aA ?_|refine aB ?_ ?_)<;>try refine sq trivial ?_)
 all_goals try refine wn trivial ?_
 repeat' (first
  | (refine(hZ _).mono ?_;rintro r h' ⟨rfl,rfl⟩;try refine sq trivial ?_)
  | (refine(hT _ _ _).mono ?_;rintro r h' ⟨rfl,rfl⟩;try refine sq trivial ?_)
  | (refine jP (by simp only[go_sem, ↓reduceIte,seval];rfl) (by rfl) ?_;try refine sq trivial ?_)
  | (refine az ?_;try refine sq trivial ?_)| (refine aA ?_;try refine sq trivial ?_)| (refine aB ?_ ?_<;>try refine sq trivial ?_))
 all_goals try refine wk trivial ?_
 all_goals (
  refine ee hQ trivial ?_;exact H3 (ch _ _ _) ⟨rfl,rfl⟩)
end Go.Av
