/- Parts. -/
import Derived.Test.YtljohklbgahomaaGreatDoorMsDz
import Derived.Test.YtljohklbgahomaaGreatDoorMsDj
set_option linter.unusedSimpArgs false
set_option linter.unusedVariables false
set_option linter.unusedSectionVars false
set_option linter.unnecessarySimpa false
set_option maxRecDepth 100000
set_option maxHeartbeats 16000000
namespace Go.Av
open Go Go.Proofs Go.RowKit
section
def clnG:List Int→Bool→Bool→List Int
 | [],_,_=>[]
 |c::t,e,w=>if blankR c then clnG t e e else if ctlR c then clnG t e w else(if w then [32,c]else [c])++clnG t true false
theorem jp:∀(l o:List Int) (w:Bool),clnR l o w=o++clnG l (decide (0<o.length)) w
 | [],o,w=>by simp[clnR,clnG]
 |c::t,o,w=>by
  rw[clnR,clnG];split
  ·exact jp t o _
  ·split
   ·exact jp t o w
   ·rw[jp t _ false,J4];have:decide (0<(o++if w=true then [32,c]else [c]).length)=true:=by
     refine H0 ?_;rw[G4];split<;>simp<;>omega
    rw[this]
theorem nP{l:List Int}(h:∀c∈l,Rune c):cleanF (encs l)=encs (clnG l false false):=by
 unfold cleanF cleanR;rw[iz h,jp];rfl
end
section
attribute [local irreducible] WP WPl WPix Sat
def dateOk(x:En):Bool:=if x.dated then decide (-62135596800≤x.date)&&decide (x.date≤253402300799)else decide (x.date=0)
def enOk(x:En):Bool:=decide (x.guid≠ [])&&(textO x.guid 512&&(textO x.title 256&&(textO x.link 512&&dateOk x)))
def fdOk(d:Fd):Bool:=decide (d.es.length≤256)&&(textO d.title 256&&(textO d.link 512&&(decide ((onceF d.es).length=d.es.length)&&d.es.all enOk)))
def EnS(x:En):Prop:=x.guid.length≤1048576∧x.title.length≤1048576∧x.link.length≤1048576
variable (G:Nat→Option (List AVal))
theorem cX(s:Bs)(m:Nat)(hs:s.length≤1048576)(h:Heap):Sat (CT G) 24 [.str s,.int .i64 m] h (fun r h'=>r=.bool (textO s m)∧h'=h):=by
 have hR:=q7 G s (by omega);have hC:=cW G s (by omega);by_cases c1:s.length≤m
 ·have d1:=H0 c1;cases c2:rightS s with
  |true=>
   rw[c2]at hR;by_cases c3:cleanF s=s
   ·have q:(cleanF s==s)=true:=(by simpa using c3);have e:textO s m=true:=(by unfold textO;rw[c2,H0 c1,H0 c3];rfl);rw[e];have F:=F2 d1 q;refine sb [.tmp 4] Tryz.func24 ?_;intro Q hQ;refine wk F ?_;refine kq F (hR _) ?_;refine kq F (hC _) ?_;refine ee hQ F ?_;exact J9 (.bool _) ⟨rfl,rfl⟩
   ·have q:(cleanF s==s)=false:=(by simpa using c3);have e:textO s m=false:=(by unfold textO;rw[H3 c3,Bool.and_false]);rw[e];have F:=F2 d1 q;refine sb [.tmp 4] Tryz.func24 ?_;intro Q hQ;refine wk F ?_;refine kq F (hR _) ?_;refine kq F (hC _) ?_;refine ee hQ F ?_;exact J9 (.bool _) ⟨rfl,rfl⟩
  |false=>
   rw[c2]at hR;have e:textO s m=false:=(by unfold textO;rw[c2,Bool.and_false,Bool.false_and]);rw[e];have F:=d1;refine sb [.tmp 4] Tryz.func24 ?_;intro Q hQ;refine wk F ?_;refine kq F (hR _) ?_;refine ee hQ F ?_;exact J9 (.bool _) ⟨rfl,rfl⟩
 ·have d1:=H3 c1;have e:textO s m=false:=by unfold textO;rw[H3 c1];rfl
  rw[e];have F:=d1;refine sb [.tmp 4] Tryz.func24 ?_;intro Q hQ;refine wk F ?_;refine ee hQ F ?_;exact J9 (.bool _) ⟨rfl,rfl⟩
theorem jq(N:Nat)(a b c d e f k:Int):Clo N (.tup [.agg [.int .i64 a,.int .i64 b,.int .i64 c,.int .i64 d,.int .i64 e,.int .i64 f],.int .i64 k]):=.tup _ fun x hx=>by
 simp only[J5,O3,or_false]at hx;rcases hx with rfl|rfl
 ·exact .agg _ fun c hc=>by simp at hc;rcases hc with rfl|rfl|rfl|rfl|rfl|rfl<;>exact .int _ _
 ·exact .int _ _
theorem uO(n:Int)(h:Heap):Sat (CT G) 81 [.int .i64 n] h (fun r h'=>(∃a b c d e f:Int,r=.tup [.agg [.int .i64 a,.int .i64 b,.int .i64 c,.int .i64 d,.int .i64 e,.int .i64 f],.int .i64 (if decide (-62135596800≤n)&&decide (n≤253402300799)then 0 else 40)])∧h'=h):=by
 have hW:=bV G n (-62135596800) 253402300799;cases hm:(decide (-62135596800≤n)&&decide (n≤253402300799))with
 |false=>
  rw[hm]at hW;refine sb [.cell 2 90,.tmp 3] Tryz.func81 ?_;intro Q hQ;refine wk trivial ?_;refine kq trivial (hW _) ?_;refine ye hQ trivial ?_;exact I3 (jq ..) ⟨⟨_,_,_,_,_,_,rfl⟩,rfl⟩
 |true=>
  rw[hm]at hW;simp only[G1,G6]at hm;obtain⟨m1,m2⟩:=hm;refine sb [.cell 2 90,.tmp 3] Tryz.func81 ?_;intro Q hQ;refine wk trivial ?_;refine kq trivial (hW _) ?_;refine cq trivial (fun c1=>?_) (fun c1=>?_)<;>(try exact c1.elim)<;>(refine wk trivial ?_)
  ·refine ye hQ trivial ?_;exact I3 (jq ..) ⟨⟨_,_,_,_,_,_,rfl⟩,rfl⟩
  ·refine ye hQ trivial ?_;exact I3 (jq ..) ⟨⟨_,_,_,_,_,_,rfl⟩,rfl⟩
theorem nQ(x:En)(h:Heap):Sat (CT G) 45 [x.av] h (fun r h'=>r=.bool (dateOk x)∧h'=h):=by
 obtain⟨g,t,l,n,b⟩:=x;unfold dateOk;simp only[En.av_eq];cases b with
 |false=>
  simp only[I4,if_false];have q:((n:Int)==0)=decide (n=0):=by rw[N8];simp
  generalize decide (n=0)=d at*;have F:=F2 q @ak;refine sb [.tmp 2] Tryz.func45 ?_;intro Q hQ;refine wk F ?_;refine ee hQ F ?_;exact I3 (.bool _) ⟨rfl,rfl⟩
 |true=>
  simp only[if_true];have hO:=uO G n;generalize (decide (-62135596800≤n)&&decide (n≤253402300799))=d at*;cases d with
  |true=>
   have F:= @ak;refine sb [.tmp 2] Tryz.func45 ?_;intro Q hQ;refine wk F ?_;refine(hO _).mono ?_;rintro r h' ⟨⟨_,_,_,_,_,_,rfl⟩,rfl⟩;(try refine sq F ?_);refine wk F ?_;refine ee hQ F ?_;exact I3 (.bool _) ⟨rfl,rfl⟩
  |false=>
   have F:= @ak;refine sb [.tmp 2] Tryz.func45 ?_;intro Q hQ;refine wk F ?_;refine(hO _).mono ?_;rintro r h' ⟨⟨_,_,_,_,_,_,rfl⟩,rfl⟩;(try refine sq F ?_);refine wk F ?_;refine ee hQ F ?_;exact I3 (.bool _) ⟨rfl,rfl⟩
theorem nR(x:En)(hx:EnS x)(h:Heap):Sat (CT G) 25 [x.av] h (fun r h'=>r=.bool (enOk x)∧h'=h):=by
 have hD:=nQ G x;obtain⟨h1,h2,h3⟩:=hx;have T1:=cX G x.guid 512 h1;have T2:=cX G x.title 256 h2;have T3:=cX G x.link 512 h3;unfold enOk;obtain⟨g,t,l,n,b⟩:=x;simp only[]at*;generalize dateOk ⟨g,t,l,n,b⟩=d4 at*;generalize textO g 512=d1 at*;generalize textO t 256=d2 at*;generalize textO l 512=d3 at*;simp only[En.av_eq]at*;by_cases c0:g=[]
 ·have q:(g==([]:Bs))=true:=by simp[c0]
  have e:decide (g≠ [])=false:=by simp[c0]
  rw[e];have F:=F4 q @M9 @O0 @ak;refine sb [.tmp 2] Tryz.func25 ?_;intro Q hQ;refine wk F ?_;refine ee hQ F ?_;exact I3 (.bool _) ⟨rfl,rfl⟩
 have q:(g==([]:Bs))=false:=by simpa using c0
 have e:decide (g≠ [])=true:=by simp[c0]
 rw[e];cases d1 with
 |false=>
  have F:=F4 q @M9 @O0 @ak;refine sb [.tmp 2] Tryz.func25 ?_;intro Q hQ;refine wk F ?_;refine kq F (T1 _) ?_;refine ee hQ F ?_;exact I3 (.bool _) ⟨rfl,rfl⟩
 |true=>
  cases d2 with
  |false=>
   have F:=F4 q @M9 @O0 @ak;refine sb [.tmp 2] Tryz.func25 ?_;intro Q hQ;refine wk F ?_;refine kq F (T1 _) ?_;refine kq F (T2 _) ?_;refine ee hQ F ?_;exact I3 (.bool _) ⟨rfl,rfl⟩
  |true=>
   cases d3 with
   |false=>
    have F:=F4 q @M9 @O0 @ak;refine sb [.tmp 2] Tryz.func25 ?_;intro Q hQ;refine wk F ?_;refine kq F (T1 _) ?_;refine kq F (T2 _) ?_;refine kq F (T3 _) ?_;refine ee hQ F ?_;exact I3 (.bool _) ⟨rfl,rfl⟩
   |true=>
    have F:=F4 q @M9 @O0 @ak;refine sb [.tmp 2] Tryz.func25 ?_;intro Q hQ;refine wk F ?_;refine kq F (T1 _) ?_;refine kq F (T2 _) ?_;refine kq F (T3 _) ?_;refine kq F (hD _) ?_;refine ee hQ F ?_;exact I3 (.bool _) ⟨rfl,rfl⟩
end
section
def digsF:Nat→Int→Bs
 |0,_=>[]
 |w+1,n=>digsF w (n/10)++[UInt8.ofNat (48+(n%10).toNat)]
theorem pj(n:Int):(UInt8.ofNat (48+(n%10).toNat)).toNat=48+(n%10).toNat:=by
 have:(n%10).toNat<10:=by omega
 rw[UInt8.toNat_ofNat_of_lt' (by show _<256;omega)]
theorem au:∀(w:Nat) (n:Int),0≤n→n<(10:Int)^w→(digsF w n).length=w∧(digsF w n).all digB=true∧numA 0 (digsF w n)=n
 |0,n,h0,h1=>by
  have:n=0:=by rw[Int.pow_zero]at h1;omega
  subst this;exact⟨rfl,rfl,rfl⟩
 |w+1,n,h0,h1=>by
  rw[Int.pow_succ]at h1;obtain⟨i1,i2,i3⟩:=au w (n/10) (by omega) (by omega);have hd:=pj n;refine⟨by rw[digsF,G4,i1];rfl,?_,?_⟩
  ·rw[digsF,List.all_append,i2,R4,Q5,List.all_nil,U5];unfold digB;rw[hd,G1,G6,G6];omega
  ·rw[digsF,gO,i3,hd];omega
def showD(x:Dt):Bs:=digsF 4 x.y++45::(digsF 2 x.m++45::(digsF 2 x.d++84::(digsF 2 x.h++58::(digsF 2 x.i++58::(digsF 2 x.s++[90])))))
def showF(n:Int):Bs:=showD (ofP n)
theorem sI{x:Dt}(hk:okD x=true)(hi:inM (momD x)=true):webP (showD x)=some (momD x):=by
 obtain⟨b1,b2,b3,b4,b5,b6,b7,b8,b9,b10,b11,b12⟩:=bX hk;obtain⟨y,m,d,h,i,s⟩:=x;simp only[]at b1 b2 b3 b4 b5 b6 b7 b8 b9 b10 b11 b12;have p4:(10:Int)^4=10000:=rfl;have p2:(10:Int)^2=100:=rfl;obtain⟨l1,a1,n1⟩:=au 4 y (by omega) (by omega);obtain⟨l2,a2,n2⟩:=au 2 m (by omega) (by omega);obtain⟨l3,a3,n3⟩:=au 2 d (by omega) (by omega);obtain⟨l4,a4,n4⟩:=au 2 h (by omega) (by omega);obtain⟨l5,a5,n5⟩:=au 2 i (by omega) (by omega);obtain⟨l6,a6,n6⟩:=au 2 s (by omega) (by omega);unfold showD webP;simp only[];have sg:∀(c:UInt8) (t:Bs) (l:Bs),c∈l→(Rdr.mk (c::t) false).sign l=((c.toNat:Int),⟨t,false⟩):=fun c t l hc=>by
  show(if c∈l then _ else _)=_;rw[G5 hc]
 simp only[Rdr.digits_app l1 a1,Rdr.digits_app l2 a2,Rdr.digits_app l3 a3,Rdr.digits_app l4 a4,Rdr.digits_app l5 a5,Rdr.digits_app l6 a6,n1,n2,n3,n4,n5,n6,sg 45 _ [45] (by decide),sg 84 _ [84,116] (by decide),sg 58 _ [58] (by decide)];have hp:(Rdr.mk [90] false).point.zone=(0,⟨[],false⟩):=rfl;rw[hp];show(if (false||decide (([]:Bs)≠ []))=true then none else tellD ⟨y,m,d,h,i,s⟩ 0)=_;rw[G2 (by decide)];unfold tellD;rw[Int.sub_zero,hk,hi];rfl
theorem uP{n:Int}(h:inM n=true):webR (showF n)=some n:=by
 obtain⟨h1,h2⟩:=eO h;rw[← m4];unfold showF;rw[sI h1 (by rw[h2];exact h),h2]
theorem pk:∀(l:List Int) (e:Bool),(∀c∈l,blankR c=false∧ctlR c=false)→clnG l e false=l
 | [],_,_=>rfl
 |c::t,e,h=>by
  obtain⟨h1,h2⟩:=h c (by simp);rw[clnG,G2 (by rw[h1];simp),G2 (by rw[h2];simp),pk t true fun x hx=>h x (by simp[hx])];rfl
theorem uQ{c:UInt8}(h:c.toNat<128):enc (c.toNat:Int)=[c]:=by
 have hr:Rune (c.toNat:Int):=⟨by omega,.inl (by omega)⟩
 rw[eB,mC hr];simp only[Int.toNat_natCast];rw[G5 (by omega)];congr 1
 exact UInt8.ofNat_toNat
theorem jr:∀s:Bs,(∀c∈s,c.toNat<128)→encs (s.map fun c=>(c.toNat:Int))=s
 | [],_=>rfl
 |c::s,h=>by
  rw[J7,gN,uQ (h c (by simp)),jr s fun x hx=>h x (by simp[hx])];rfl
theorem nS{s:Bs}(h:∀c∈s,33≤c.toNat∧c.toNat<127):cleanF s=s:=by
 have hb:=jr s fun c hc=>by have:=h c hc;omega
 have hR:∀c∈s.map (fun c=>(c.toNat:Int)),Rune c:=fun c hc=>by
  obtain⟨b,hb,rfl⟩:=K6.1 hc;have:=h b hb;exact⟨by omega,.inl (by omega)⟩
 have:=nP hR;rw[hb,pk,hb]at this
 ·exact this
 ·intro c hc;obtain⟨b,hb,rfl⟩:=K6.1 hc;have:=h b hb;refine⟨H3 (by omega),H3 (by omega)⟩
theorem kP:∀(w:Nat) (n:Int),∀c∈digsF w n,33≤c.toNat∧c.toNat<127
 |0,n,c,h=>by simp[digsF]at h
 |w+1,n,c,h=>by
  rw[digsF,U0,L8]at h;rcases h with h|rfl
  ·exact kP w _ c h
  ·rw[pj];omega
theorem qB(n:Int):∀c∈showF n,33≤c.toNat∧c.toNat<127:=by
 intro c hc;unfold showF showD at hc;simp only[U0,J5,P7,or_false]at hc;rcases hc with h|rfl|h|rfl|h|rfl|h|rfl|h|rfl|h|rfl<;>first|exact kP _ _ _ h|decide
theorem uR{n:Int}(h:inM n=true):anyF (cleanF (showF n))=some n:=by
 rw[nS (qB n)];unfold anyF;rw[uP h]
theorem uS(y m:Int):0≤daysF y m:=(di y m).1
theorem cP(y:Int):∀(k j:Nat),sumD y k≤sumD y (k+j)
 |k,0=>Int.le_refl _
 |k,j+1=>by
  have h1:=cP y k j;have h2:=uS y ((k+j+1:Nat):Int);show sumD y k≤sumD y (k+j)+daysF y ((k+j+1:Nat):Int);omega
theorem gm{y:Int}(h1:1≤y)(h2:y+1≤9999):aheadF (y+1)=aheadF y+sumD y 12:=by
 have a:=eu h1 (by omega:y≤9999) 11 (by decide) 31;have b:=eu (y:=y+1) (by omega) h2 0 (by decide) 1;have c:dayP (y+1) ((0+1:Nat):Int) 1=dayP y ((11+1:Nat):Int) 31+1:=by
  unfold dayP dayM;rw[G5 (by decide),G2 (by decide)];have:y+1-1=y:=by omega
  rw[this];simp;omega
 have d:daysF y ((11+1:Nat):Int)=31:=by
  rw[iM h1 (by omega) (by decide) (by decide)];rfl
 have e:sumD y 12=sumD y 11+daysF y ((11+1:Nat):Int):=rfl;have z:sumD (y+1) 0=0:=rfl;rw[z]at b;rw[e,d];omega
theorem js{y:Int}(h1:1≤y):∀j:Nat,y+j≤9999→aheadF y≤aheadF (y+j)
 |0,_=>by simp
 |j+1,h=>by
  have ih:=js h1 j (by omega);have hn:=gm (y:=y+j) (by omega) (by omega);have hs:=cP (y+j) 0 12;have z:sumD (y+j) 0=0:=rfl;have e:y+((j+1:Nat):Int)=y+j+1:=by omega
  rw[e,hn];rw[z,L0]at hs;omega
theorem sJ{x:Dt}(h:okD x=true):∃k:Nat,k<12∧x.m=(k+1:Nat)∧dayP x.y x.m x.d=aheadF x.y+(x.d-1+sumD x.y k)-719162∧0≤x.d-1∧x.d-1+sumD x.y k<sumD x.y (k+1)∧0≤sumD x.y k∧sumD x.y (k+1)≤sumD x.y 12:=by
 obtain⟨b1,b2,b3,b4,b5,b6,b7,b8,b9,b10,b11,b12⟩:=bX h;obtain⟨k,hk⟩:∃k:Nat,x.m=(k+1:Nat):=⟨(x.m-1).toNat,by omega⟩;have hk12:k<12:=by omega
 have hd:x.d≤daysF x.y x.m:=by
  rw[jl]at h;simp only[G1,G6]at h;exact h.1.2
 have e:=eu b1 b2 k hk12 x.d;have z:=cP x.y 0 k;have z0:sumD x.y 0=0:=rfl;rw[z0,L0]at z;have m12:=cP x.y (k+1) (11-k);have:k+1+(11-k)=12:=by omega
 rw[this]at m12;refine⟨k,hk12,hk,by rw[hk,e];omega,by omega,?_,z,m12⟩;show _<sumD x.y k+daysF x.y ((k+1:Nat):Int);rw[← hk];omega
theorem pl{a b:Dt}(ha:okD a=true)(hb:okD b=true)(h:momD a=momD b):a=b:=by
 obtain⟨a1,a2,a3,a4,a5,a6,a7,a8,a9,a10,a11,a12⟩:=bX ha;obtain⟨b1,b2,b3,b4,b5,b6,b7,b8,b9,b10,b11,b12⟩:=bX hb;obtain⟨k,hk,mk,ek,dk,ik,zk,tk⟩:=sJ ha;obtain⟨j,hj,mj,ej,dj,ij,zj,tj⟩:=sJ hb;unfold momD at h;have hd:dayP a.y a.m a.d=dayP b.y b.m b.d:=by omega
 have hh:a.h=b.h∧a.i=b.i∧a.s=b.s:=by omega
 rw[ek,ej]at hd;have less:∀{y z:Int} {u v:Int},1≤y→z≤9999→y<z→u<sumD y 12→0≤v→aheadF y+u=aheadF z+v→False:=fun {y z u v} h1 h2 h3 h4 h5 h6=>by
  have hn:=gm h1 (by omega:y+1≤9999);have hm:=js (y:=y+1) (by omega) (z-(y+1)).toNat (by omega);have:y+1+((z-(y+1)).toNat:Int)=z:=by omega
  rw[this]at hm;omega
 have hy:a.y=b.y:=by
  rcases Int.lt_trichotomy a.y b.y with q|q|q
  ·exact(less a1 b2 q (u:=a.d-1+sumD a.y k) (v:=b.d-1+sumD b.y j) (by omega) (by omega) (by omega)).elim
  ·exact q
  ·exact(less b1 a2 q (u:=b.d-1+sumD b.y j) (v:=a.d-1+sumD a.y k) (by omega) (by omega) (by omega)).elim
 rw[hy]at hd ik zk tk;have hkj:k=j:=by
  rcases P1 k j with q|q|q
  ·have:=cP b.y (k+1) (j-(k+1));have e:k+1+(j-(k+1))=j:=(by omega);rw[e]at this;omega
  ·exact q
  ·have:=cP b.y (j+1) (k-(j+1));have e:j+1+(k-(j+1))=k:=(by omega);rw[e]at this;omega
 subst hkj;obtain⟨y,m,d,hh1,i,s⟩:=a;obtain⟨y',m',d',hh',i',s'⟩:=b;simp only[]at*;obtain⟨q1,q2,q3⟩:=hh;have hm:m=m':=by rw[mk,mj]
 have hdd:d=d':=by omega
 rw[hy,hm,hdd,q1,q2,q3]
end
section
attribute [local irreducible] WP WPl WPix Sat
variable (G:Nat→Option (List AVal))
theorem sK(N:Nat)(x:Dt):Clo N x.av:=.agg _ fun c hc=>by
 simp at hc;rcases hc with rfl|rfl|rfl|rfl|rfl|rfl<;>exact .int _ _
theorem uT(n:Int)(hn:inM n=true)(h:Heap):Sat (CT G) 67 [.int .i64 n] h (fun r h'=>r=(ofP n).av∧h'=h):=by
 obtain⟨hok,hmom⟩:=eO hn;have hi:=hn;unfold inM at hi;simp only[G1,G6]at hi;obtain⟨m1,m2⟩:=hi;have hZ:=gR G;obtain⟨w,hw⟩:∃w,w=n+62135596800:=⟨_,rfl⟩;obtain⟨D,hD⟩:∃D,D=w/86400:=⟨_,rfl⟩;have f0:=hw.symm;have f1:=hD.symm;have hw0:0≤w∧w≤315537897599:=by omega
 have hD0:0≤D∧D≤3652058:=by omega
 have dt:∀i:Decidable True, @decide True i=true:=fun i=>by simp
 have df:∀i:Decidable False, @decide False i=false:=fun i=>by simp
 have y0:aheadF (D/366+1)≤D:=by unfold aheadF;omega
 have F:=F7 f0 f1 @cm @aY dt df @ak;refine sb [.cell 2 90] Tryz.func67 ?_;intro Q hQ;refine wk F ?_;refine kq F (hZ _) ?_;refine lm (fun nL tL hL=>∃(y:Int),(9999-y).toNat=nL∧h++[.row 90 6 0 [.agg [.int .i64 0,.int .i64 0,.int .i64 0,.int .i64 0,.int .i64 0,.int .i64 0]]]=hL∧tL 5=.int .i64 y∧(1≤y∧y≤9999)∧aheadF y≤D) ((fun(y:Int)=>((9999-y).toNat:Nat)) (D/366+1)) ?_ ?_
 ·refine H5 ⟨D/366+1,rfl,aw,?_,by omega,y0⟩;all_goals try exact zZz F
 rintro _ s2 h' ⟨y,rfl,rfl,e5,hy,ha⟩ K2 hK2;simp only[am,ar,Nat.reduceEqDiff, ↓reduceIte]at e5;have F:=F2 F e5;obtain⟨hy1,hy2⟩:=hy;by_cases c1:y<9999∧aheadF (y+1)≤D
 ·have d1:decide (y<9999)=true:=H0 c1.1;have d2:decide (aheadF (y+1)≤D)=true:=H0 c1.2;have hA:=ep G (y+1) (by omega);have F:=F3 F d1 d2;try refine sq F ?_
  refine wk F ?_;refine kq F (hA _) ?_;refine hK2 _ _ _ (H5 ⟨y+1,rfl,aw,?_,by omega,c1.2⟩) (by omega);all_goals try exact zZz F
 ·have hB:=kM (y:=y) (by omega);have hA:=ep G y (by omega);have hA1:y<9999→∀h,Sat (CT G) 102 [.int .i64 (y+1)] h (fun r h'=>r=.int .i64 (aheadF (y+1))∧h'=h):=fun q=>ep G (y+1) (by omega)
  have lt12:D-aheadF y<sumD y 12:=by
   by_cases q:y<9999
   ·have:=gm hy1 (by omega:y+1≤9999);have:¬aheadF (y+1)≤D:=fun k=>c1 ⟨q,k⟩
    omega
   ·have:y=9999:=by omega
    subst this;have e1:aheadF 9999=3651694:=(by decide);have e2:sumD 9999 12=365:=(by decide);omega
  have alt:(decide (y<9999)=true∧decide (aheadF (y+1)≤D)=false)∨decide (y<9999)=false:=by
   by_cases q:y<9999
   ·exact .inl ⟨H0 q,H3 fun k=>c1 ⟨q,k⟩⟩
   ·exact .inr (H3 q)
  rcases alt with⟨d1,d2⟩|d1
  ·have hA1:=hA1 (T8 d1);have F:=F3 F d1 d2;(try refine sq F ?_);refine wk F ?_;refine kq F (hA1 _) ?_;refine kq F (hA _) ?_;refine lm (fun nL tL hL=>∃(k:Nat) (m r:Int),12-k=nL∧h++[.row 90 6 0 [.agg [.int .i64 0,.int .i64 0,.int .i64 0,.int .i64 0,.int .i64 0,.int .i64 0]]]=hL∧tL 3=.int .i64 r∧tL 6=.int .i64 m∧k<12∧m=((k+1:Nat):Int)∧r=D-aheadF y-sumD y k∧0≤r) ((fun(k:Nat) (m r:Int)=>(12-k:Nat)) (0) (1) (D-aheadF y)) ?_ ?_
   ·refine H5 ⟨0,1,D-aheadF y,rfl,aw,?_,?_,by omega,rfl,by rw[show sumD y 0=0 from rfl];omega,by omega⟩;all_goals try exact zZz F
   rintro _ s4 h' ⟨k,m,r,rfl,rfl,e3,e6,hk,hm,hr,hq⟩ K4 hK4;simp only[am,ar,Nat.reduceEqDiff, ↓reduceIte]at e3 e6;have F:=F3 F e3 e6;have hDy:=gQ G y m;have es:sumD y (k+1)=sumD y k+daysF y m:=(by rw[hm];rfl);have db:=di y m;have sb:=(ig y k).1;by_cases c2:r≥daysF y m
   ·have d3:=H0 c2;have k12:k+1<12:=by
     by_cases q:k+1<12
     ·exact q
     ·have:k+1=12:=by omega
      rw[this]at es;omega
    have F:=F2 F d3;(try refine sq F ?_);refine wk F ?_;refine kq F (hDy _) ?_;refine kq F (hDy _) ?_;refine hK4 _ _ _ (H5 ⟨k+1,m+1,r-daysF y m,rfl,aw,?_,?_,k12,by omega,by omega,by omega⟩) (by omega);all_goals try exact zZz F
   ·have d3:=H3 c2;have hx:(⟨y,m,r+1,w%86400/3600,w%86400/60%60,w%86400%60⟩:Dt)=ofP n:=by
     refine pl ?_ hok ?_
     ·rw[jl];simp only[G1,G6];omega
     ·rw[hmom];unfold momD;simp only[];rw[hm,eu hy1 hy2 k hk (r+1)];omega
    have F:=F2 F d3;(try refine sq F ?_);refine wk F ?_;refine kq F (hDy _) ?_;refine ye hQ F ?_;exact I3 (sK _ ⟨y,m,r+1,w%86400/3600,w%86400/60%60,w%86400%60⟩) ⟨by rw[← hx],rfl⟩
  ·have F:=F2 F d1;(try refine sq F ?_);refine wk F ?_;refine kq F (hA _) ?_;refine lm (fun nL tL hL=>∃(k:Nat) (m r:Int),12-k=nL∧h++[.row 90 6 0 [.agg [.int .i64 0,.int .i64 0,.int .i64 0,.int .i64 0,.int .i64 0,.int .i64 0]]]=hL∧tL 3=.int .i64 r∧tL 6=.int .i64 m∧k<12∧m=((k+1:Nat):Int)∧r=D-aheadF y-sumD y k∧0≤r) ((fun(k:Nat) (m r:Int)=>(12-k:Nat)) (0) (1) (D-aheadF y)) ?_ ?_
   ·refine H5 ⟨0,1,D-aheadF y,rfl,aw,?_,?_,by omega,rfl,by rw[show sumD y 0=0 from rfl];omega,by omega⟩;all_goals try exact zZz F
   rintro _ s4 h' ⟨k,m,r,rfl,rfl,e3,e6,hk,hm,hr,hq⟩ K4 hK4;simp only[am,ar,Nat.reduceEqDiff, ↓reduceIte]at e3 e6;have F:=F3 F e3 e6;have hDy:=gQ G y m;have es:sumD y (k+1)=sumD y k+daysF y m:=(by rw[hm];rfl);have db:=di y m;have sb:=(ig y k).1;by_cases c2:r≥daysF y m
   ·have d3:=H0 c2;have k12:k+1<12:=by
     by_cases q:k+1<12
     ·exact q
     ·have:k+1=12:=by omega
      rw[this]at es;omega
    have F:=F2 F d3;(try refine sq F ?_);refine wk F ?_;refine kq F (hDy _) ?_;refine kq F (hDy _) ?_;refine hK4 _ _ _ (H5 ⟨k+1,m+1,r-daysF y m,rfl,aw,?_,?_,k12,by omega,by omega,by omega⟩) (by omega);all_goals try exact zZz F
   ·have d3:=H3 c2;have hx:(⟨y,m,r+1,w%86400/3600,w%86400/60%60,w%86400%60⟩:Dt)=ofP n:=by
     refine pl ?_ hok ?_
     ·rw[jl];simp only[G1,G6];omega
     ·rw[hmom];unfold momD;simp only[];rw[hm,eu hy1 hy2 k hk (r+1)];omega
    have F:=F2 F d3;(try refine sq F ?_);refine wk F ?_;refine kq F (hDy _) ?_;refine ye hQ F ?_;exact I3 (sK _ ⟨y,m,r+1,w%86400/3600,w%86400/60%60,w%86400%60⟩) ⟨by rw[← hx],rfl⟩
theorem wm(d:Int)(h0:0≤d)(h1:d<10)(H:Heap):aslice Tryz.prog H 9 (.str [48,49,50,51,52,53,54,55,56,57]) (some (.int .i64 d)) (some (.int .i64 (d+1))) none=some (.str [UInt8.ofNat (48+(d%10).toNat)]):=by
 have:d=0∨d=1∨d=2∨d=3∨d=4∨d=5∨d=6∨d=7∨d=8∨d=9:=by omega
 rcases this with rfl|rfl|rfl|rfl|rfl|rfl|rfl|rfl|rfl|rfl<;>simp[aslice,go_sem,optInt]
theorem dm(W:Nat)(hW:W≤9)(n:Int)(h0:0≤n)(h1:n≤1000000000)(h:Heap):Sat (CT G) 68 [.int .i64 n,.int .i64 W] h (fun r h'=>r=.str (digsF W n)∧h'=h):=by
 have F:=F2 @cm @aY;refine sb [.tmp 4] Tryz.func68 ?_;intro Q hQ;refine wk F ?_;refine lm (fun nL tL hL=>∃(i:Nat) (m:Int) (s:Bs),W-i=nL∧h=hL∧tL 0=.int .i64 m∧tL 5=.str s∧tL 6=.int .i64 i∧i≤W∧(0≤m∧m≤1000000000)∧digsF W n=digsF (W-i) m++s∧s.length≤i) ((fun(i:Nat) (m:Int) (s:Bs)=>(W-i:Nat)) (0) (n) ([])) ?_ ?_
 ·refine H5 ⟨0,n,[],rfl,aw,?_,?_,?_,by omega,⟨h0,h1⟩,by simp,by simp⟩;all_goals try exact zZz F
 rintro _ s2 h' ⟨i,m,s,rfl,rfl,e0,e5,e6,hi,hm,hs,hl⟩ K2 hK2;simp only[am,ar,Nat.reduceEqDiff, ↓reduceIte]at e0 e5 e6;have F:=F4 F e0 e5 e6;obtain⟨hm0,hm1⟩:=hm;by_cases c1:i<W
 ·have d1:=H0 c1;have hc:=wm (m%10) (by omega) (by omega);have e10:m%10%10=m%10:=by omega
  rw[e10]at hc;obtain⟨j,hj⟩:∃j,W-i=j+1:=⟨W-i-1,by omega⟩;have hj2:W-(i+1)=j:=by omega
  have hs':digsF W n=digsF (W-(i+1)) (m/10)++([UInt8.ofNat (48+(m%10).toNat)]++s):=by
   rw[hs,hj,hj2,digsF,J4]
  generalize UInt8.ofNat (48+(m%10).toNat)=b at*;have F:=F3 F d1 hc;try refine sq F ?_
  refine wk F ?_;refine hK2 _ _ _ (H5 ⟨i+1,m/10,[b]++s,rfl,aw,?_,?_,?_,by omega,by omega,hs',by simp;omega⟩) (by omega);all_goals try exact zZz F
 ·have d1:=H3 c1;have e0:W-i=0:=by omega
  rw[e0]at hs;have hs:digsF W n=s:=hs;have F:=F6 @cm @aY e0 e5 e6 d1;try refine sq F ?_
  refine wk F ?_;refine ee hQ F ?_;exact J9 (.str _) ⟨by rw[hs],rfl⟩
theorem sL(n:Int)(hn:inM n=true)(h:Heap):Sat (CT G) 38 [.int .i64 n] h (fun r h'=>r=.str (showF n)∧h'=h):=by
 have hO:=uT G n hn;obtain⟨hk,_⟩:=eO hn;obtain⟨b1,b2,b3,b4,b5,b6,b7,b8,b9,b10,b11,b12⟩:=bX hk;unfold showF;generalize ofP n=x at*;obtain⟨y,m,d,hh,i,s⟩:=x;simp only[Dt.av_eq]at*;have D1:=dm G 4 (by decide) y (by omega) (by omega);have D2:=dm G 2 (by decide) m (by omega) (by omega);have D3:=dm G 2 (by decide) d (by omega) (by omega);have D4:=dm G 2 (by decide) hh (by omega) (by omega);have D5:=dm G 2 (by decide) i (by omega) (by omega);have D6:=dm G 2 (by decide) s (by omega) (by omega);have p4:(10:Int)^4=10000:=rfl;have p2:(10:Int)^2=100:=rfl;have l1:=(au 4 y (by omega) (by omega)).1;have l2:=(au 2 m (by omega) (by omega)).1;have l3:=(au 2 d (by omega) (by omega)).1;have l4:=(au 2 hh (by omega) (by omega)).1;have l5:=(au 2 i (by omega) (by omega)).1;have l6:=(au 2 s (by omega) (by omega)).1;have es:showD ⟨y,m,d,hh,i,s⟩=digsF 4 y++[45]++digsF 2 m++[45]++digsF 2 d++[84]++digsF 2 hh++[58]++digsF 2 i++[58]++digsF 2 s++[90]:=by
  simp[showD]
 generalize hS:showD ⟨y,m,d,hh,i,s⟩=S at*;generalize digsF 4 y=t1 at*;generalize digsF 2 m=t2 at*;generalize digsF 2 d=t3 at*;generalize digsF 2 hh=t4 at*;generalize digsF 2 i=t5 at*;generalize digsF 2 s=t6 at*;have F:= @ak;refine sb [.tmp 2] Tryz.func38 ?_;intro Q hQ;refine wk F ?_;refine kq F (hO _) ?_;refine ab (D1 _) ?_;try refine sq F ?_
 refine wk F ?_;refine ab (D2 _) ?_;try refine sq F ?_
 refine wk F ?_;refine ab (D3 _) ?_;try refine sq F ?_
 refine wk F ?_;refine ab (D4 _) ?_;try refine sq F ?_
 refine wk F ?_;refine ab (D5 _) ?_;try refine sq F ?_
 refine wk F ?_;refine ab (D6 _) ?_;try refine sq F ?_
 refine wk F ?_;refine ee hQ F ?_;exact I3 (.str _) ⟨by rw[es];simp,rfl⟩
end
section
def escB(c:UInt8):Bs:=if c=38 then [38,97,109,112,59]else if c=60 then [38,108,116,59]else if c=62 then [38,103,116,59]else if c=34 then [38,113,117,111,116,59]else if c=39 then [38,97,112,111,115,59]else [c]
def escF(s:Bs):Bs:=s.flatMap escB
theorem kQ(c:UInt8)(s:Bs):escF (c::s)=escB c++escF s:=M2
theorem uU(c:UInt8):1≤(escB c).length∧(escB c).length≤6:=by
 unfold escB;repeat (first|split|exact⟨by simp,by simp⟩)
theorem dn:∀s:Bs,(escF s).length≤6*s.length∧s.length≤(escF s).length
 | []=>by simp[escF]
 |c::s=>by have:=dn s;have:=uU c;rw[kQ];simp;omega
theorem sM(s:Bs)(c:UInt8):escF (s++[c])=escF s++escB c:=by simp[escF]
theorem uV(n u:Bs)(hn:∀c∈n,c≠ (59:UInt8)):Lib.cut (n++59::u) [59]=(n,u,true):=by
 rw[xI (n++59::u) 59 n.length (fun i hi c hc=>hn c (by rw[G9 hi]at hc;exact H2 hc)) (by simp)];simp
theorem eQ(n u:Bs)(v:UInt8)(hn:∀c∈n,c≠ (59:UInt8))(hl:n.length≤10)(hs:signF n=((v.toNat:Int),true))(he:enc (v.toNat:Int)=[v]):rdE (38::n++59::u)=v::rdE u:=by
 rw[K5,wj,uV n u hn];simp only[hs,U5,R4,G6];rw[G5 hl,he];rfl
theorem uW(c:UInt8)(u:Bs):rdE (escB c++u)=c::rdE u:=by
 unfold escB;by_cases h1:c=38
 ·subst h1;exact eQ [97,109,112] u 38 (by decide) (by decide) (by kernel_rfl) (by kernel_rfl)
 by_cases h2:c=60
 ·subst h2;exact eQ [108,116] u 60 (by decide) (by decide) (by kernel_rfl) (by kernel_rfl)
 by_cases h3:c=62
 ·subst h3;exact eQ [103,116] u 62 (by decide) (by decide) (by kernel_rfl) (by kernel_rfl)
 by_cases h4:c=34
 ·subst h4;exact eQ [113,117,111,116] u 34 (by decide) (by decide) (by kernel_rfl) (by kernel_rfl)
 by_cases h5:c=39
 ·subst h5;exact eQ [97,112,111,115] u 39 (by decide) (by decide) (by kernel_rfl) (by kernel_rfl)
 rw[G2 h1,G2 h2,G2 h3,G2 h4,G2 h5];exact uK c u h1
theorem pm:∀s:Bs,rdE (escF s)=s
 | []=>wi
 |c::s=>by rw[kQ,uW,pm s]
theorem wo(c:UInt8):∀x∈escB c,x≠60∧x≠34:=by
 unfold escB;by_cases h1:c=38
 ·rw[G5 h1];decide
 by_cases h2:c=60
 ·rw[G2 h1,G5 h2];decide
 by_cases h3:c=62
 ·rw[G2 h1,G2 h2,G5 h3];decide
 by_cases h4:c=34
 ·rw[G2 h1,G2 h2,G2 h3,G5 h4];decide
 by_cases h5:c=39
 ·rw[G2 h1,G2 h2,G2 h3,G2 h4,G5 h5];decide
 rw[G2 h1,G2 h2,G2 h3,G2 h4,G2 h5];intro x hx;obtain rfl:=L8.1 hx;exact⟨h2,h4⟩
theorem wq(s:Bs):∀x∈escF s,x≠60∧x≠34:=fun x hx=>by
 obtain⟨c,_,h⟩:=List.mem_flatMap.1 hx;exact wo c x h
def opn(n:Bs):Bs:=60::n++[62]
def cls(n:Bs):Bs:=60::47::n++[62]
def opK(n:Bs):Bs×Tok:=(opn n,(1,n,[],[]))
def clK(n:Bs):Bs×Tok:=(cls n,(2,n,[],[]))
def onP(n s:Bs):List (Bs×Tok):=opK n::(if s=[]then []else [(escF s,(3,[],[],s))])++[clK n]
def onF(n s:Bs):Bs:=opn n++(escF s++cls n)
theorem dp(n s:Bs):(onP n s).flatMap (·.1)=onF n s:=by
 unfold onP onF;by_cases h:s=[]
 ·rw[G5 h,h];simp[opK,clK,escF]
 ·rw[G2 h];simp[opK,clK]
def PcD(p:Bs×Tok):Prop:=(∃r,p.1=60::r)∧p.2.1≠3∧∀r,partF (p.1++r)=([p.2],r,false)
def GoodP:Bool→List (Bs×Tok)→Prop
 |_,[]=>True
 |b,p::ps=>(PcD p∧GoodP false ps)∨(b=false∧(∃s,s≠ []∧p=(escF s,(3,[],[],s)))∧(∃r,ps.flatMap (·.1)=60::r)∧GoodP true ps)
theorem sN{s:Bs}(h:s≠ []):escF s≠ []:=fun e=>by
 have h1:=(dn s).2;rw[e,G8]at h1;have:=N6.2 h;omega
theorem qC{s r:Bs}(h:s≠ []):partF (escF s++60::r)=([(3,[],[],s)],60::r,false):=by
 obtain⟨c,t,hc⟩:=List.exists_cons_of_ne_nil (sN h);have hno:=wq s;have h60:c≠60:=(hno c (by rw[hc];simp)).1;have hp:∀p:Bs,Lib.hasPrefix (escF s++60::r) (60::p)=false:=fun p=>by
  rw[hc];have:((60:UInt8)==c)=false:=by simpa using fun e=>h60 e.symm
  simp[Lib.hasPrefix,List.isPrefixOf,this]
 have tb:∀x∈escF s,textB x=true:=fun x hx=>by
  have:=(hno x hx).1;unfold textB textP;have hn:x.toNat≠60:=fun e=>this (UInt8.toNat_inj.1 e)
  simpa using(by omega:¬((x.toNat:Int)=60))
 have t60:textB 60=false:=by decide
 have tw:(escF s++60::r).takeWhile textB=escF s:=by
  rw[List.takeWhile_append_of_pos tb,List.takeWhile_cons,t60];simp
 have dw:(escF s++60::r).dropWhile textB=60::r:=by
  rw[List.dropWhile_append_of_pos tb,Q6,t60];simp
 unfold partF;rw[show p1=60::p1.tail from rfl,show p2=60::p2.tail from rfl,show p3=60::p3.tail from rfl,show p4=60::p4.tail from rfl,show p5=60::p5.tail from rfl,show p6=60::p6.tail from rfl];rw[hp,hp,hp,hp,hp,hp,tw,dw,jo _ _ (Nat.lt_succ_self _),pm];simp
theorem gX:∀(ps:List (Bs×Tok)) (f:Nat) (l:List Tok) (b:Bool),GoodP b ps→(b=false→∀u,l.getLast? =some u→u.1≠3)→ps.length<f→l.length+ps.length≤8192→tksF f (ps.flatMap (·.1)) l=(l++ps.map (·.2),0)
 | [],f,l,_,_,_,hf,_=>by
  obtain⟨f,rfl⟩:∃k,f=k+1:=⟨f-1,by omega⟩;rw[List.flatMap_nil,tksF,G5 rfl];simp
 |p::ps,f,l,b,hg,hb,hf,hl=>by
  simp only[G0]at hf hl;obtain⟨f,rfl⟩:∃k,f=k+1:=⟨f-1,by omega⟩;rcases hg with⟨⟨⟨r1,h1⟩,h2,h3⟩,hg⟩| ⟨hb0,⟨s,hs,rfl⟩,⟨r,hr⟩,hg⟩
  ·have hne:p.1++ps.flatMap (·.1)≠ []:=(by simp[h1]);have ha:[p.2].foldl addT l=l++[p.2]:=(by show addT l p.2=_;unfold addT;rw[G2 h2]);rw[M2,tksF,G2 hne,h3];simp only[I4,if_false,ha];rw[G2 (by simp;omega),gX ps f _ false hg (fun _ u hu=>by simp at hu;rw[← hu];exact h2) (by omega) (by simp;omega)];simp
  ·have hne:escF s++60::r≠ []:=(by simp);have ha:[((3,[],[],s):Tok)].foldl addT l=l++[(3,[],[],s)]:=by
    show addT l (3,[],[],s)=_;unfold addT;rw[G5 rfl,G2 hs];cases hu:l.getLast? with
    |none=>rfl
    |some u=>simp only[];rw[G2 (hb hb0 u hu)]
   rw[M2,hr,tksF,G2 hne,qC hs];simp only[I4,if_false,ha];rw[G2 (by simp;omega), ← hr,gX ps f _ true hg (fun h=>by cases h) (by omega) (by simp;omega)];simp
theorem gZ:∀(ps:List (Bs×Tok)) (b:Bool),GoodP b ps→ps.length≤(ps.flatMap (·.1)).length
 | [],_,_=>by simp
 |p::ps,b,hg=>by
  rw[M2,G4,G0];rcases hg with⟨⟨⟨r1,h1⟩,h2,h3⟩,hg⟩| ⟨hb0,⟨s,hs,rfl⟩,_,hg⟩
  ·have:=gZ ps _ hg;rw[h1,G0];omega
  ·have:=gZ ps _ hg;have:=N6.2 (sN hs);simp only[];omega
theorem qD{ps:List (Bs×Tok)}(hg:GoodP false ps)(h1:(ps.flatMap (·.1)).length≤65536)(h2:ps.length≤8192):toksF (ps.flatMap (·.1))=(ps.map (·.2),0):=by
 unfold toksF;rw[G2 (by omega)];have:=gX ps ((ps.flatMap (·.1)).length+1) [] false hg (fun _ u hu=>by simp at hu) (by have:=gZ ps _ hg;omega) (by simpa using h2);simpa using this
theorem nT(n r:Bs)(hn:nameW (n++62::r)=n)(hr:nameR (n++62::r)=62::r)(hb:badN n=false):partF (60::47::n++62::r)=([(2,n,[],[])],r,false):=by
 have e1:Lib.hasPrefix (60::47::n++62::r) p1=false:=rfl;have e2:Lib.hasPrefix (60::47::n++62::r) p2=false:=rfl;have e3:Lib.hasPrefix (60::47::n++62::r) p3=false:=rfl;have e4:Lib.hasPrefix (60::47::n++62::r) p4=false:=rfl;have e5:Lib.hasPrefix (60::47::n++62::r) p5=true:=rfl;have e6:Lib.trimPrefix (60::47::n++62::r) p5=n++62::r:=by unfold Lib.trimPrefix;rw[G5 e5];rfl
 unfold partF;rw[e1,e2,e3,e4,e5,e6];simp only[I4,if_false,if_true];have e7:(62::r:Bs).dropWhile blankB=62::r:=rfl;have e8:Lib.hasPrefix (62::r) [62]=true:=rfl;have e9:Lib.trimPrefix (62::r) [62]=r:=by unfold Lib.trimPrefix;rw[G5 e8];rfl
 unfold closeF;simp only[hn,hr,hb,e7,e8,e9];rfl
theorem qE(f:Nat)(n:Bs)(at_:List At)(r:Bs):openL (f+1) n at_ (62::r) false=([(1,n,at_,[])],r,false):=by
 have e7:(62::r:Bs).dropWhile blankB=62::r:=rfl;have e8:Lib.hasPrefix (62::r) [62]=true:=rfl;have e9:Lib.trimPrefix (62::r) [62]=r:=by unfold Lib.trimPrefix;rw[G5 e8];rfl
 rw[openL,e7,e8,e9];rfl
theorem qF(n r:Bs)(c:UInt8)(h1:(c==33)=false)(h2:(c==63)=false)(h3:(c==47)=false):partF (60::c::n++r)=openF (c::n++r):=by
 have b1:((33:UInt8)==c)=false:=by rw[← h1];exact Bool.beq_comm
 have b2:((63:UInt8)==c)=false:=by rw[← h2];exact Bool.beq_comm
 have b3:((47:UInt8)==c)=false:=by rw[← h3];exact Bool.beq_comm
 have e1:Lib.hasPrefix (60::c::n++r) p1=false:=by simp[Lib.hasPrefix,p1,List.isPrefixOf,b1]
 have e2:Lib.hasPrefix (60::c::n++r) p2=false:=by simp[Lib.hasPrefix,p2,List.isPrefixOf,b2]
 have e3:Lib.hasPrefix (60::c::n++r) p3=false:=by simp[Lib.hasPrefix,p3,List.isPrefixOf,b1]
 have e4:Lib.hasPrefix (60::c::n++r) p4=false:=by simp[Lib.hasPrefix,p4,List.isPrefixOf,b1]
 have e5:Lib.hasPrefix (60::c::n++r) p5=false:=by simp[Lib.hasPrefix,p5,List.isPrefixOf,b3]
 have e6:Lib.hasPrefix (60::c::n++r) p6=true:=rfl;have e7:Lib.trimPrefix (60::c::n++r) p6=c::n++r:=by unfold Lib.trimPrefix;rw[G5 e6];rfl
 unfold partF;rw[e1,e2,e3,e4,e5,e6,e7];simp only[I4,if_false,if_true]
theorem gn{n:Bs}{c:UInt8}{t:Bs}(hn:n=c::t)(h1:(c==33)=false)(h2:(c==63)=false)(h3:(c==47)=false)(hw:∀r,nameW (n++62::r)=n)(hr:∀r,nameR (n++62::r)=62::r)(hb:badN n=false):PcD (opK n):=⟨⟨_,rfl⟩,by simp[opK],fun r=>by
 have e0:partF (opn n++r)=openF (n++62::r):=by
  rw[hn];have:=qF (t++[62]) r c h1 h2 h3;simp only[opn,K5,J4,J6]at this ⊢;exact this
 show partF (opn n++r)=_;rw[e0];unfold openF;rw[hw,hr,hb];exact qE _ _ _ _⟩
theorem gr{n:Bs}(hw:∀r,nameW (n++62::r)=n)(hr:∀r,nameR (n++62::r)=62::r)(hb:badN n=false):PcD (clK n):=⟨⟨_,rfl⟩,by simp[clK],fun r=>by
 have:=nT n r (hw r) (hr r) hb;simp only[clK,cls,K5,J4,J6]at this ⊢;exact this⟩
def pubP(x:En):List (Bs×Tok):=if x.dated then onP bPub (showF x.date)else []
def itmP(x:En):List (Bs×Tok):=opK bItem::(onP bGuid x.guid++(onP bTitle x.title++(onP bLink x.link++(pubP x++[clK bItem]))))
def fdP(d:Fd):List (Bs×Tok):=opK bRss::opK bChan::(onP bTitle d.title++(onP bLink d.link++(d.es.flatMap itmP++[clK bChan,clK bRss])))
def fdT(d:Fd):Bs:=(fdP d).flatMap (·.1)
theorem mN:PcD (opK bItem)∧PcD (opK bRss)∧PcD (opK bChan)∧PcD (opK bTitle)∧PcD (opK bLink)∧PcD (opK bGuid)∧PcD (opK bPub):=
 ⟨gn rfl rfl rfl rfl (fun _=>rfl) (fun _=>rfl) rfl,gn rfl rfl rfl rfl (fun _=>rfl) (fun _=>rfl) rfl,gn rfl rfl rfl rfl (fun _=>rfl) (fun _=>rfl) rfl,gn rfl rfl rfl rfl (fun _=>rfl) (fun _=>rfl) rfl,
  gn rfl rfl rfl rfl (fun _=>rfl) (fun _=>rfl) rfl,gn rfl rfl rfl rfl (fun _=>rfl) (fun _=>rfl) rfl,gn rfl rfl rfl rfl (fun _=>rfl) (fun _=>rfl) rfl⟩
theorem kR:PcD (clK bItem)∧PcD (clK bRss)∧PcD (clK bChan)∧PcD (clK bTitle)∧PcD (clK bLink)∧PcD (clK bGuid)∧PcD (clK bPub):=
 ⟨gr (fun _=>rfl) (fun _=>rfl) rfl,gr (fun _=>rfl) (fun _=>rfl) rfl,gr (fun _=>rfl) (fun _=>rfl) rfl,gr (fun _=>rfl) (fun _=>rfl) rfl,
  gr (fun _=>rfl) (fun _=>rfl) rfl,gr (fun _=>rfl) (fun _=>rfl) rfl,gr (fun _=>rfl) (fun _=>rfl) rfl⟩
theorem eE{n s:Bs}{ps:List (Bs×Tok)}(h1:PcD (opK n))(h2:PcD (clK n))(hg:GoodP false ps):GoodP false (onP n s++ps):=by
 unfold onP;by_cases h:s=[]
 ·rw[G5 h];exact .inl ⟨h1,.inl ⟨h2,hg⟩⟩
 ·rw[G2 h];refine .inl ⟨h1,.inr ⟨rfl,⟨s,h,rfl⟩,?_,.inl ⟨h2,hg⟩⟩⟩;exact⟨_,rfl⟩
theorem uX(x:En){ps:List (Bs×Tok)}(hg:GoodP false ps):GoodP false (itmP x++ps):=by
 obtain⟨o1,o2,o3,o4,o5,o6,o7⟩:=mN;obtain⟨c1,c2,c3,c4,c5,c6,c7⟩:=kR;have e:itmP x++ps=opK bItem::(onP bGuid x.guid++(onP bTitle x.title++(onP bLink x.link++(pubP x++(clK bItem::ps))))):=by simp[itmP]
 rw[e];have hp:GoodP false (pubP x++(clK bItem::ps)):=by
  unfold pubP;split
  ·exact eE o7 c7 (.inl ⟨c1,hg⟩)
  ·exact .inl ⟨c1,hg⟩
 exact .inl ⟨o1,eE o6 c6 (eE o4 c4 (eE o5 c5 hp))⟩
theorem kS:∀(l:List En) {ps:List (Bs×Tok)},GoodP false ps→GoodP false (l.flatMap itmP++ps)
 | [],_,h=>h
 |x::l,ps,h=>by
  rw[M2,J4];exact uX x (kS l h)
theorem ws(d:Fd):GoodP false (fdP d):=by
 obtain⟨o1,o2,o3,o4,o5,o6,o7⟩:=mN;obtain⟨c1,c2,c3,c4,c5,c6,c7⟩:=kR;exact .inl ⟨o2,.inl ⟨o3,eE o4 c4 (eE o5 c5 (kS _ (.inl ⟨c3,.inl ⟨c2,trivial⟩⟩)))⟩⟩
theorem fA(n s:Bs):(onP n s).length≤3:=by unfold onP;split<;>simp
theorem wt(x:En):(itmP x).length≤14:=by
 have h1:=fA bGuid x.guid;have h2:=fA bTitle x.title;have h3:=fA bLink x.link;have h4:(pubP x).length≤3:=by unfold pubP;split<;>simp[fA]
 unfold itmP;simp only[G0,G4,G8];omega
theorem uY(l:List En):(l.flatMap itmP).length≤14*l.length:=by
 induction l with
 |nil=>simp
 |cons x l ih=>
  have:=wt x;rw[M2,G4,G0];omega
theorem wu(d:Fd)(h:d.es.length≤256):(fdP d).length≤8192:=by
 have h1:=fA bTitle d.title;have h2:=fA bLink d.link;have h3:=uY d.es;unfold fdP;simp only[G0,G4,G8];omega
def onE(n s:Bs):Elem:=⟨n,[],s,[]⟩
def itmE(x:En):Elem:=⟨bItem,[],[],onE bGuid x.guid::onE bTitle x.title::onE bLink x.link::(if x.dated then [onE bPub (showF x.date)]else [])⟩
def chE(d:Fd):Elem:=⟨bChan,[],[],onE bTitle d.title::onE bLink d.link::d.es.map itmE⟩
def fdEl(d:Fd):Elem:=⟨bRss,[],[],[chE d]⟩
theorem vx:¬((1:Int)=3):=by decide
theorem sO:¬((2:Int)=3):=by decide
theorem sP:¬((2:Int)=1):=by decide
theorem fB{d g g':Nat}{n m s x:Bs}{a:List At}{k:List Elem}{rest:List Tok}(hd:d≠0)(hg:((onP m s).map (·.2)++rest).length<g)(hg':rest.length<g'):
  elL g d n a x k ((onP m s).map (·.2)++rest)=elL g' d n a x (k++[onE m s]) rest:=by
 obtain⟨g,rfl⟩:∃q,g=q+1:=⟨g-1,by omega⟩;unfold onP at hg ⊢;by_cases h:s=[]
 ·subst h;rw[G5 rfl]at hg ⊢;simp only[M1,J7,N2,J6,K5,J3,G0,opK,clK]at hg ⊢;obtain⟨g,rfl⟩:∃q,g=q+1:=⟨g-1,by omega⟩;rw[bg,G2 vx,G5 rfl,G2 hd,bg,G2 sO,G2 sP,G5 rfl,G5 rfl,M7];exact gg _ _ _ _ _ _ _ _ (show rest.length<_ by omega) hg'
 ·rw[G2 h]at hg ⊢;simp only[M1,J7,N2,J6,K5,J3,G0,opK,clK]at hg ⊢;obtain⟨g,rfl⟩:∃q,g=q+1:=⟨g-1,by omega⟩;obtain⟨g,rfl⟩:∃q,g=q+1:=⟨g-1,by omega⟩;rw[bg,G2 vx,G5 rfl,G2 hd,bg,G5 rfl,bg,G2 sO,G2 sP,G5 rfl,G5 rfl,M7];exact gg _ _ _ _ _ _ _ _ (show rest.length<_ by omega) hg'
theorem wv{d g g':Nat}{n x:Bs}{a:List At}{k:List Elem}{y:En}{rest:List Tok}(hd:2≤d)(hg:((itmP y).map (·.2)++rest).length<g)(hg':rest.length<g'):
  elL g d n a x k ((itmP y).map (·.2)++rest)=elL g' d n a x (k++[itmE y]) rest:=by
 obtain⟨g,rfl⟩:∃q,g=q+1:=⟨g-1,by omega⟩;have e:(itmP y).map (·.2)++rest=(1,bItem,[],[])::((onP bGuid y.guid).map (·.2)++((onP bTitle y.title).map (·.2)++((onP bLink y.link).map (·.2)++((pubP y).map (·.2)++((2,bItem,[],[])::rest))))):=by
  simp[itmP,opK,clK]
 rw[e]at hg ⊢;simp only[G0,G4]at hg;have hin:elL g (d-1) bItem [] [] [] ((onP bGuid y.guid).map (·.2)++((onP bTitle y.title).map (·.2)++((onP bLink y.link).map (·.2)++((pubP y).map (·.2)++((2,bItem,[],[])::rest)))))=some (itmE y,rest):=by
  rw[fB (g':=g) (by omega) (by simp only[G4,G0];omega) (by simp only[G4,G0];omega),
   fB (g':=g) (by omega) (by simp only[G4,G0];omega) (by simp only[G4,G0];omega),
   fB (g':=g) (by omega) (by simp only[G4,G0];omega) (by simp only[G4,G0];omega)]
  have hp:∀k,elL g (d-1) bItem [] [] k ((pubP y).map (·.2)++((2,bItem,[],[])::rest))=elL g (d-1) bItem [] [] (k++(if y.dated then [onE bPub (showF y.date)]else [])) ((2,bItem,[],[])::rest):=fun k=>by
   unfold pubP at hg ⊢;cases hb:y.dated with
   |true=>
    rw[hb]at hg;simp only[if_true]at hg ⊢;exact fB (by omega) (by simp only[G4,G0];omega) (by simp only[G0];omega)
   |false=>simp
  rw[hp];obtain⟨g,rfl⟩:∃q,g=q+1:=⟨g-1,by omega⟩;rw[bg,G2 sO,G2 sP,G5 rfl,G5 rfl];simp[itmE]
 rw[bg,G2 vx,G5 rfl,G2 (by omega),hin,M7];exact gg _ _ _ _ _ _ _ _ (show rest.length<_ by omega) hg'
theorem mO:∀(l:List En) {d g g':Nat} {n x:Bs} {a:List At} {k:List Elem} {rest:List Tok},2≤d→((l.flatMap itmP).map (·.2)++rest).length<g→rest.length<g'→
  elL g d n a x k ((l.flatMap itmP).map (·.2)++rest)=elL g' d n a x (k++l.map itmE) rest
 | [],d,g,g',n,x,a,k,rest,_,hg,hg'=>by
  simp only[List.flatMap_nil,N2,J6,J3]at hg ⊢;exact gg _ _ _ _ _ _ _ _ hg hg'
 |y::l,d,g,g',n,x,a,k,rest,hd,hg,hg'=>by
  rw[M2,M1,J4]at hg ⊢;rw[wv (g':=g) hd hg (by simp only[G4]at hg ⊢;omega),mO l hd (by simp only[G4]at hg ⊢;omega) hg',J7,J4];rfl
theorem ww(d:Fd):bldF ((fdP d).map (·.2))=some (fdEl d):=by
 have e:(fdP d).map (·.2)=(1,bRss,[],[])::(1,bChan,[],[])::((onP bTitle d.title).map (·.2)++((onP bLink d.link).map (·.2)++((d.es.flatMap itmP).map (·.2)++[(2,bChan,[],[]),(2,bRss,[],[])]))):=by
  simp[fdP,opK,clK]
 have key:∀g,((onP bTitle d.title).map (·.2)++((onP bLink d.link).map (·.2)++((d.es.flatMap itmP).map (·.2)++[(2,bChan,[],[]),(2,bRss,[],[])])):List Tok).length<g→
   elL g 30 bChan [] [] [] ((onP bTitle d.title).map (·.2)++((onP bLink d.link).map (·.2)++((d.es.flatMap itmP).map (·.2)++[(2,bChan,[],[]),(2,bRss,[],[])])))=some (chE d,[(2,bRss,[],[])]):=fun g hg=>by
  simp only[G4,G0,G8]at hg;rw[fB (g':=g) (by decide) (by simp only[G4,G0,G8];omega) (by simp only[G4,G0,G8];omega),
   fB (g':=g) (by decide) (by simp only[G4,G0,G8];omega) (by simp only[G4,G0,G8];omega),
   mO d.es (g':=g) (by decide) (by simp only[G4,G0,G8];omega) (by simp only[G0,G8];omega)]
  obtain⟨g,rfl⟩:∃q,g=q+1:=⟨g-1,by omega⟩;rw[bg,G2 sO,G2 sP,G5 rfl,G5 rfl];simp[chE]
 unfold bldF;rw[e,Q6,G2 (by simp[blankT])];rw[mL,G5 rfl,G2 (by decide)];simp only[G0];rw[bg,G2 vx,G5 rfl,G2 (by decide),key _ (by omega),M7,bg,G2 sO,G2 sP,G5 rfl,G5 rfl];rfl
end
section
attribute [local irreducible] WP WPl WPix Sat
variable (G:Nat→Option (List AVal))
def FdS(d:Fd):Prop:=d.title.length≤1048576∧d.link.length≤1048576∧d.es.length≤1048576∧∀x∈d.es,EnS x
theorem iC(d:Fd)(hd:FdS d)(h:Heap):Sat (CT G) 11 [d.av] h (fun r h'=>r=.int .i64 (if fdOk d then 0 else 120)∧h'=h):=by
 obtain⟨t,l,es⟩:=d;obtain⟨ht,hl,he,hx⟩:=hd;simp only[]at ht hl he hx;have T1:=cX G t 256 ht;have T2:=cX G l 512 hl;have O1:=dN G es he;have me:(es.map En.av).length=es.length:=I7 ..;have mo:((onceF es).map En.av).length=(onceF es).length:=I7 ..;have ol:=gW es;have f1:(Fd.mk t l es).av=.agg [.str t,.str l,.sl 5 (es.map En.av)]:=rfl;have ek:fdOk ⟨t,l,es⟩=(decide (es.length≤256)&&(textO t 256&&(textO l 512&&(decide ((onceF es).length=es.length)&&es.all enOk)))):=rfl;rw[f1,ek];generalize textO t 256=d1 at*;generalize textO l 512=d2 at*;have dt:∀i:Decidable True, @decide True i=true:=fun i=>by simp
 have df:∀i:Decidable False, @decide False i=false:=fun i=>by simp
 by_cases c0:es.length≤256
 rotate_left
 ·have q0:decide ((es.length:Int)>256)=true:=H0 (by omega);rw[H3 c0];have F:=F3 me q0 @ak;refine sb [.tmp 2] Tryz.func11 ?_;intro Q hQ;refine wk F ?_;refine ee hQ F ?_;exact I3 (.int _ _) ⟨rfl,rfl⟩
 have q0:decide ((es.length:Int)>256)=false:=H3 (by omega);rw[H0 c0];cases d1 with
 |false=>
  have F:=F3 me q0 @ak;refine sb [.tmp 2] Tryz.func11 ?_;intro Q hQ;refine wk F ?_;refine ab (T1 _) ?_;try refine sq F ?_
  refine wk F ?_;refine ee hQ F ?_;exact I3 (.int _ _) ⟨rfl,rfl⟩
 |true=>
  cases d2 with
  |false=>
   have F:=F3 me q0 @ak;refine sb [.tmp 2] Tryz.func11 ?_;intro Q hQ;refine wk F ?_;refine ab (T1 _) ?_;(try refine sq F ?_);refine wk F ?_;refine ab (T2 _) ?_;(try refine sq F ?_);refine wk F ?_;refine ee hQ F ?_;exact I3 (.int _ _) ⟨rfl,rfl⟩
  |true=>
   by_cases c1:(onceF es).length=es.length
   rotate_left
   ·have q1:decide ((onceF es).length<es.length)=true:=H0 (by omega);rw[H3 c1];have F:=F5 me mo q0 q1 @ak;refine sb [.tmp 2] Tryz.func11 ?_;intro Q hQ;refine wk F ?_;refine ab (T1 _) ?_;(try refine sq F ?_);refine wk F ?_;refine ab (T2 _) ?_;(try refine sq F ?_);refine wk F ?_;refine ab (O1 _) ?_;(try refine sq F ?_);refine wk F ?_;refine ee hQ F ?_;exact I3 (.int _ _) ⟨rfl,rfl⟩
   have q1:decide (es.length<es.length)=false:=H3 (by omega);rw[H0 c1];rw[c1]at mo;simp only[R4];have F:=F5 me mo q0 q1 @ak;refine sb [.tmp 2] Tryz.func11 ?_;intro Q hQ;refine wk F ?_;refine ab (T1 _) ?_;(try refine sq F ?_);refine wk F ?_;refine ab (T2 _) ?_;(try refine sq F ?_);refine wk F ?_;refine ab (O1 _) ?_;(try refine sq F ?_);refine wk F ?_;refine lm (fun nL tL hL=>∃(i:Nat) (j:Heap),es.length-i=nL∧h++(.row 25 3 0 [.agg [.str t,.str l,.sl 5 (es.map En.av)]]::j)=hL∧tL 34=.int .i64 i∧i≤es.length∧(es.take i).all enOk=true) ((fun(i:Nat) (j:Heap)=>(es.length-i:Nat)) (0) ([])) ?_ ?_
   ·refine H5 ⟨0,[],rfl,aw,?_,by omega,rfl⟩;all_goals try exact zZz F
   rintro _ s2 h' ⟨i,j,rfl,rfl,e34,hi,ha⟩ K2 hK2;simp only[am,ar,Nat.reduceEqDiff, ↓reduceIte]at e34;have F:=F2 F e34;by_cases c2:i<es.length
   ·obtain⟨x,hx2,_⟩:=aj c2;have d2:=H0 c2;have hxs:=hx x (H2 hx2);have E1:=nR G x hxs;have hm:(es.map En.av)[i]? =some x.av:=(by rw[K9,hx2];rfl);cases c3:enOk x with
    |true=>
     rw[c3]at E1;have ha':(es.take (i+1)).all enOk=true:=by
      rw[M8,hx2,List.all_append,ha];simp[c3]
     have F:=F3 F d2 hx2;(try refine sq F ?_);refine wk F ?_;refine kq F (E1 _) ?_;refine hK2 _ _ _ (H5 ⟨i+1,_,rfl,aw,?_,by omega,ha'⟩) (by omega);all_goals try exact zZz F
    |false=>
     rw[c3]at E1;have hn:es.all enOk=false:=by
      rw[List.all_eq_false];exact⟨x,H2 hx2,by simp[c3]⟩
     have F:=F3 F d2 hx2;(try refine sq F ?_);refine wk F ?_;refine kq F (E1 _) ?_;refine ee hQ F ?_;exact I3 (.int _ _) ⟨by rw[hn];rfl,rfl⟩
   ·have d2:=H3 c2;rw[H9 (by omega)]at ha;have F:=F2 F d2;(try refine sq F ?_);refine wk F ?_;refine ee hQ F ?_;exact I3 (.int _ _) ⟨by rw[ha];rfl,rfl⟩
end
end Go.Av
