/- Parts. -/
import Derived.Test.YtljohklbgahomaaGreatDoorMsEx7
import Derived.Test.YtljohklbgahomaaGreatDoorMsDyh0
set_option linter.unusedSimpArgs false
set_option linter.unusedVariables false
set_option linter.unusedSectionVars false
set_option linter.unnecessarySimpa false
set_option maxRecDepth 100000
set_option maxHeartbeats 16000000
namespace Go.Av
open Go Go.Proofs Go.RowKit
attribute [local irreducible] WP WPl WPix Sat
variable (G:Nat→Option (List AVal))
abbrev dR(s:Bs)(b:Bool):Blk:=.row 188 2 0 [.agg [.str s,.bool b]]
theorem rV(n:Nat)(s:Bs)(b:Bool):CloB n (dR s b):=by
 intro r hr;simp only[L8]at hr;subst hr;exact .agg _ (by intro c hc;simp at hc;rcases hc with rfl|rfl;exact .str _;exact .bool _)
theorem jk{H j:Heap}{p:Nat}{s:Bs}{b:Bool}{x:AVal}(hx:∀n,Clo n x):Fin H (H.set p (dR s b)++j) (fun r h'=>r=x∧h'=H.set p (dR s b)) x:=
 Fin.keep (List.length_set ..) (lS (rV _ _ _)) (hx _) ⟨rfl,rfl⟩
theorem aT{H:Heap}{p:Nat}{s:Bs}{b:Bool}{x:AVal}(hx:∀n,Clo n x):Fin H (H.set p (dR s b)) (fun r h'=>r=x∧h'=H.set p (dR s b)) x:=
 V0 (List.length_set ..) (lS (rV _ _ _)) (hx _) ⟨rfl,rfl⟩
theorem p8{s:Bs}{k:Nat}{c:UInt8}(h:s[k]? =some c):(digB c=true→dec s k=(c.toNat,1)∧48≤c.toNat∧c.toNat≤57)∧(digB c=false→(dec s k).1<48∨57<(dec s k).1):=by
 unfold digB;by_cases ha:c.toNat<128
 ·rw[cI s k c h ha];constructor
  ·intro hd;simp only[G1,G6]at hd;exact⟨rfl,hd⟩
  ·intro hd;simp only[Bool.and_eq_false_iff,decide_eq_false_iff_not]at hd;show c.toNat<48∨57<c.toNat;omega
 ·have hd:=fS s k c h (by omega);constructor
  ·intro hd;simp only[G1,G6]at hd;omega
  ·intro _;omega
theorem gO:∀(a:Bs) (n:Int) (c:UInt8),numA n (a++[c])=10*numA n a+((c.toNat:Int)-48)
 | [],n,c=>rfl
 |d::a,n,c=>gO a _ c
theorem p9:∀(a:Bs),a.all digB=true→0≤numA 0 a∧numA 0 a<(10:Int)^a.length:=by
 have key:∀(a:Bs) (n:Int),0≤n→a.all digB=true→0≤numA n a∧numA n a<(n+1)*(10:Int)^a.length:=by
  intro a;induction a with
  |nil=>intro n hn _;simp[numA];omega
  |cons c a ih=>
   intro n hn h;simp only[Q5,G1,digB,G6]at h;obtain⟨h1,h2⟩:=h;obtain⟨i1,i2⟩:=ih (10*n+((c.toNat:Int)-48)) (by omega) (by simpa [digB]using h2);refine⟨i1,Int.lt_of_lt_of_le i2 ?_⟩;rw[G0,Int.pow_succ,Int.mul_comm _ 10, ← Int.mul_assoc];exact R1 (by omega) (Int.le_of_lt (Int.pow_pos (by omega)))
 intro a h;have:=key a 0 (by omega) h;simpa using this
theorem bc{r r':Rdr}{w:Nat}{n:Int}(e:r.digits w=(n,r')):0≤n∧n<(10:Int)^w:=by
 have hp:(0:Int)<10^w:=Int.pow_pos (by omega);unfold Rdr.digits at e;split at e
 ·cases e;omega
 ·rename_i hl;split at e
  ·rename_i ha;cases e;have:=p9 _ ha;rw[I6,Nat.min_eq_left (by omega)]at this;exact this
  ·cases e;omega
theorem aS{s s':Bs}{b b':Bool}{w:Nat}{n:Int}(e:(Rdr.mk s b).digits w=(n,⟨s',b'⟩))(hw:w≤9)(hs:s.length≤1073741824){H:Heap}{p:Nat}(hg:getRow H p 0=some (188,2,[.agg [.str s,.bool b]])):
  Sat (CT G) 197 [.hp p 0 0 0,.int .i64 w] H (fun r h'=>r=.int .i64 n∧h'=H.set p (dR s' b')):=by
 have hp:=ax hg;have hgj:∀j,getRow (H++j) p 0=some (188,2,[.agg [.str s,.bool b]]):=fun j=>by rw[bt _ hp];exact hg
 unfold Rdr.digits at e;by_cases hl:s.length<w
 ·rw[G5 hl]at e;cases e;have d1:=H0 hl;have F:=F2 hg d1;refine sb [.tmp 4] Tryz.func197 ?_;intro Q hQ;refine wk F ?_;refine ee hQ F ?_;exact aT (fun _=>.int _ _)
 ·rw[G2 hl]at e;have d1:=H3 hl;have hwl:w≤s.length:=by omega
  have hp9:∀k,k≤w→(10:Int)^k≤1000000000:=fun k hk=>by
   have:(10:Nat)^k≤10^9:=Nat.pow_le_pow_right (by omega) (by omega);have:((10^k:Nat):Int)≤((10^9:Nat):Int):=by omega
   simpa using this
  have htl:(s.take w).length=w:=by rw[I6];omega
  have F:=F8 hg hgj hp d1 hwl @m9 @cJ @rK;refine sb [.tmp 4] Tryz.func197 ?_;intro Q hQ;refine wk F ?_;refine lm (fun nL tL hL=>∃(k:Nat) (m:Int),w-k=nL∧H++[.iter (s.take w) k]=hL∧tL 5=.int .i64 m∧k≤w∧m=numA 0 ((s.take w).take k)∧((s.take w).take k).all digB=true) ((fun(k:Nat) (m:Int)=>(w-k:Nat)) (0) (0)) ?_ ?_
  ·refine H5 ⟨0,0,rfl,aw,?_,by omega,rfl,rfl⟩;all_goals try exact zZz F
  rintro _ s2 h' ⟨k,m,rfl,rfl,e5,hk,hm,ha⟩ K2 hK2;simp only[am,ar,Nat.reduceEqDiff, ↓reduceIte]at e5;have F:=F2 F e5;refine wk F ?_;refine bR (cK _ _ _ _) (fun hlt=>?_) (fun hge=>?_)
  ·obtain⟨c,hc,_⟩:=aj hlt;obtain⟨h1,h2⟩:=p8 hc;have htk:=M8 (l:=s.take w) (i:=k);rw[hc]at htk;have htk:(s.take w).take (k+1)=(s.take w).take k++[c]:=htk;have hbd:=p9 _ ha;rw[I6,htl,Nat.min_eq_left hk]at hbd;have h9:=hp9 k hk;unfold dec at h1 h2;cases hd:digB c with
   |true=>
    obtain⟨h1,h48,h57⟩:=h1 hd;rw[h1];have q1:decide ((c.toNat:Int)<48)=false:=(by simp;omega);have q2:decide ((c.toNat:Int)>57)=false:=(by simp;omega);have hn:=gO ((s.take w).take k) 0 c;rw[← htk, ← hm]at hn;rw[← hm]at hbd;have F:=F3 F q1 q2;(try refine sq F ?_);refine wk F ?_;refine hK2 _ _ _ (H5 ⟨k+1,10*m+((c.toNat:Int)-48),rfl,aw,?_,by omega,hn.symm,by rw[htk,List.all_append,ha];simp[hd]⟩) (by omega);all_goals try exact zZz F
   |false=>
    have h2:=h2 hd;have hall:((s.take w).all digB)=false:=by
     cases hx:(s.take w).all digB with
     |false=>rfl
     |true=>rw[I0.1 hx c (H2 hc)]at hd;cases hd
    rw[G2 (by rw[hall];simp)]at e;cases e;generalize (Utf8.decode ⟨(s.take w).toArray⟩ k).1=rn at*;by_cases q:rn<48
    ·have q1:decide ((rn:Int)<48)=true:=(by simp;omega);have F:=F2 F q1;(try refine sq F ?_);refine wk F ?_;refine ee hQ F ?_;exact jk (fun _=>.int _ _)
    ·have q1:decide ((rn:Int)<48)=false:=(by simp;omega);have q2:decide ((rn:Int)>57)=true:=(by simp;omega);have F:=F3 F q1 q2;(try refine sq F ?_);refine wk F ?_;refine ee hQ F ?_;exact jk (fun _=>.int _ _)
  ·rw[H9 (by omega)]at hm ha;rw[G5 ha]at e;cases e;(try refine sq F ?_);refine wk F ?_;refine ee hQ F ?_;rw[hm];exact jk (fun _=>.int _ _)
theorem wc(l:Bs)(c:UInt8):(Lib.indexByte l c<0↔c ∉ l)∧ -1≤Lib.indexByte l c:=by
 induction l with
 |nil=>simp[Lib.indexByte]
 |cons b l ih=>
  unfold Lib.indexByte;by_cases h:b=c
  ·subst h;simp
  ·have h1:(b==c)=false:=(by simpa using h);have h2:¬c=b:=fun e=>h e.symm
   simp only[h1,I4,if_false,J5,h2,false_or];by_cases k:Lib.indexByte l c= -1
   ·simp only[k,beq_self_eq_true,if_true];constructor
    ·constructor
     ·intro _;exact ih.1.1 (by omega)
     ·intro _;omega
    ·omega
   ·have k1:(Lib.indexByte l c== -1)=false:=(by simpa using k);simp only[k1,I4,if_false];constructor
    ·constructor
     ·intro hh;omega
     ·intro hh;have:=ih.1.2 hh;omega
    ·omega
theorem dL{s s':Bs}{b b':Bool}{l:Bs}{n:Int}(e:(Rdr.mk s b).sign l=(n,⟨s',b'⟩)){H:Heap}{p:Nat}(hg:getRow H p 0=some (188,2,[.agg [.str s,.bool b]])):
  Sat (CT G) 198 [.hp p 0 0 0,.str l] H (fun r h'=>r=.int .u8 n∧h'=H.set p (dR s' b')):=by
 have hp:=ax hg;unfold Rdr.sign at e;cases s with
 |nil=>
  cases e;have z:(([]:Bs)==[])=true:=rfl;have F:=F2 hg z;refine sb [.tmp 4] Tryz.func198 ?_;intro Q hQ;refine wk F ?_;refine ee hQ F ?_;exact aT (fun _=>.int _ _)
 |cons c t=>
  have hx:=wc l c;have z:((c::t)==([]:Bs))=false:=rfl;simp only[]at e;by_cases hm:c∈l
  ·rw[G5 hm]at e;cases e;have q1:decide (Lib.indexByte l c<0)=false:=H3 fun k=>hx.1.1 k hm
   have F:=F3 hg z q1;refine sb [.tmp 4] Tryz.func198 ?_;intro Q hQ;refine wk F ?_;refine kq F (aV G l c _) ?_;refine ee hQ F ?_;exact aT (fun _=>.int _ _)
  ·rw[G2 hm]at e;cases e;have q1:decide (Lib.indexByte l c<0)=true:=H0 (hx.1.2 hm);have F:=F3 hg z q1;refine sb [.tmp 4] Tryz.func198 ?_;intro Q hQ;refine wk F ?_;refine kq F (aV G l c _) ?_;refine ee hQ F ?_;exact aT (fun _=>.int _ _)
theorem bV(n a b:Int)(h:Heap):Sat (CT G) 125 [.int .i64 n,.int .i64 a,.int .i64 b] h (fun r h'=>r=.bool (decide (a≤n)&&decide (n≤b))∧h'=h):=by
 by_cases k:a≤n
 ·have k2:decide (n≥a)=true:=by simpa using k
  have F:=k2;refine sb [.tmp 6] Tryz.func125 ?_;intro Q hQ;refine wk F ?_;refine ee hQ F ?_;exact J9 (.bool _) ⟨by simp[k],rfl⟩
 ·have k2:decide (n≥a)=false:=by simpa using k
  have F:=k2;refine sb [.tmp 6] Tryz.func125 ?_;intro Q hQ;refine wk F ?_;refine ee hQ F ?_;exact J9 (.bool _) ⟨by simp[k],rfl⟩
theorem uy{s:Bs}{b:Bool}(hs:s.length≤1073741824){H:Heap}{p:Nat}(hg:getRow H p 0=some (188,2,[.agg [.str s,.bool b]])):
  Sat (CT G) 220 [.hp p 0 0 0] H (fun r h'=>r=.int .i64 (s.takeWhile digB).length∧h'=H):=by
 have hp:=ax hg;have hgj:∀j,getRow (H++j) p 0=some (188,2,[.agg [.str s,.bool b]]):=fun j=>by rw[bt _ hp];exact hg
 have F:=F2 hg hgj;refine sb [.tmp 2] Tryz.func220 ?_;intro Q hQ;refine wk F ?_;refine lm (fun nL tL hL=>∃(k:Nat),s.length-k=nL∧H++[.iter s k]=hL∧k≤s.length∧(∀i,i<k→∀c,s[i]? =some c→digB c=true)) ((fun(k:Nat)=>(s.length-k:Nat)) (0)) ?_ ?_
 ·refine H5 ⟨0,rfl,aw,by omega,fun i hi=>by omega⟩;all_goals try exact zZz F
 rintro _ s2 h' ⟨k,rfl,rfl,hk,hq⟩ K2 hK2;refine wk F ?_;refine bR (cK _ _ _ _) (fun hlt=>?_) (fun hge=>?_)
 ·obtain⟨c,hc,_⟩:=aj hlt;obtain⟨h1,h2⟩:=p8 hc;unfold dec at h1 h2;cases hd:digB c with
  |true=>
   obtain⟨h1,h48,h57⟩:=h1 hd;rw[h1];have q1:decide ((c.toNat:Int)<48)=false:=(by simp;omega);have q2:decide ((c.toNat:Int)>57)=false:=(by simp;omega);have hq1:∀i,i<k+1→∀c,s[i]? =some c→digB c=true:=fun i hi c' hc2=>by
    rcases P6 i k with h1|h1
    ·exact hq i h1 c' hc2
    ·obtain rfl:i=k:=by omega
     rw[hc]at hc2;cases hc2;exact hd
   have F:=F3 F q1 q2;(try refine sq F ?_);refine wk F ?_;refine hK2 _ _ _ (H5 ⟨k+1,rfl,aw,by omega,hq1⟩) (by omega);all_goals try exact zZz F
  |false=>
   have h2:=h2 hd;obtain⟨e1,_⟩:=jg digB s k hq hk (.inr ⟨_,hc,hd⟩);have el:(s.takeWhile digB).length=k:=(by rw[e1,I6];omega);generalize (Utf8.decode ⟨s.toArray⟩ k).1=rn at*;by_cases q:rn<48
   ·have q1:decide ((rn:Int)<48)=true:=(by simp;omega);have F:=F2 F q1;(try refine sq F ?_);refine wk F ?_;refine ee hQ F ?_;rw[el];exact I3 (.int _ _) ⟨rfl,rfl⟩
   ·have q1:decide ((rn:Int)<48)=false:=(by simp;omega);have q2:decide ((rn:Int)>57)=true:=(by simp;omega);have F:=F3 F q1 q2;(try refine sq F ?_);refine wk F ?_;refine ee hQ F ?_;rw[el];exact I3 (.int _ _) ⟨rfl,rfl⟩
 ·obtain⟨e1,_⟩:=jg digB s s.length (fun i hi=>hq i (by omega)) (H6 _) (.inl rfl);have el:(s.takeWhile digB).length=s.length:=by rw[e1,I6];omega
  try refine sq F ?_
  refine wk F ?_;refine ee hQ F ?_;rw[el];exact I3 (.int _ _) ⟨rfl,rfl⟩
theorem qi{s s':Bs}{b b':Bool}(e:(Rdr.mk s b).point=⟨s',b'⟩)(hs:s.length≤1073741824){H:Heap}{p:Nat}(hg:getRow H p 0=some (188,2,[.agg [.str s,.bool b]])):
  Sat (CT G) 199 [.hp p 0 0 0] H (fun r h'=>r=.tup []∧h'=H.set p (dR s' b')):=by
 have hp:=ax hg;have hP:=cA G s [46];have hset:H.set p (dR s b)=H:=by
  refine List.ext_getElem? fun i=>?_
  by_cases k:p=i
  ·subst k;rw[M3 hp];exact(bw hg).symm
  ·rw[K8 k]
 have same:(Rdr.mk s b).point=⟨s,b⟩→Lib.hasPrefix s [46]=false→Sat (CT G) 199 [.hp p 0 0 0] H (fun r h'=>r=.tup []∧h'=H.set p (dR s' b')):=fun e2 h46=>by
  rw[e2]at e;cases e;rw[h46]at hP;have F:=hg;refine sb [] Tryz.func199 ?_;intro Q hQ;refine wk F ?_;refine kq F (hP _) ?_;refine ee hQ F ?_;rw[hset];exact J9 (.tup _ (by simp)) ⟨rfl,rfl⟩
 cases s with
 |nil=>exact same rfl rfl
 |cons c t=>
  by_cases hc:c=46
  rotate_left
  ·refine same ?_ (by
   have k:(46==c)=false:=(by simpa using fun e:(46:UInt8)=c=>hc e.symm);simp[Lib.hasPrefix,List.isPrefixOf,k])
   unfold Rdr.point;split
   ·rename_i h;simp only[R9]at h;exact absurd h.1 hc
   ·rfl
  subst hc;have h46:Lib.hasPrefix (46::t) [46]=true:=by simp[Lib.hasPrefix]
  rw[h46]at hP;have e2:(Rdr.mk (46::t) b).point=⟨t.drop (t.takeWhile digB).length,b|| !(decide (1≤(t.takeWhile digB).length)&&decide ((t.takeWhile digB).length≤9))⟩:=rfl;rw[e2]at e;cases e;have htl:t.length≤1073741824:=by simp at hs;omega
  have hg1:getRow (H.set p (dR t b)) p 0=some (188,2,[.agg [.str t,.bool b]]):=by rw[bE _ _ _ _ _ hp];rfl
  have hR:=uy G htl hg1;have hW:=bV G ((t.takeWhile digB).length:Int) 1 9;have hle:=xw t;have eb:(decide ((1:Int)≤((t.takeWhile digB).length:Int))&&decide (((t.takeWhile digB).length:Int)≤9))=(decide (1≤(t.takeWhile digB).length)&&decide ((t.takeWhile digB).length≤9)):=by
   congr 1
   ·exact decide_eq_decide.2 (by omega)
   ·exact decide_eq_decide.2 (by omega)
  rw[eb]at hW;generalize (t.takeWhile digB).length=n at*;generalize (decide (1≤n)&&decide (n≤9))=v at*;have h1l:1≤(46::t).length:=by simp
  have hd1:(46::t).drop 1=t:=rfl;have F:=F7 hg @h1l hd1 hg1 hp hle @ak;cases b with
  |true=>
   simp only[M4]at*;refine sb [] Tryz.func199 ?_;intro Q hQ;refine wk F ?_;refine kq F (hP _) ?_;refine kq F (hR) ?_;refine ee hQ F ?_;exact aT (fun _=>.tup _ (by simp))
  |false=>
   simp only[O9]at*;refine sb [] Tryz.func199 ?_;intro Q hQ;refine wk F ?_;refine kq F (hP _) ?_;refine kq F (hR) ?_;refine kq F (hW _) ?_;refine ee hQ F ?_;exact aT (fun _=>.tup _ (by simp))
end Go.Av
namespace Go.Av
open Go.RowKit
inductive ET where
 |fin
 |one (i:Nat) (m:List Bool) (s:ET)
 |two (i:Nat) (m:List Bool) (s:ET) (j:Nat) (m':List Bool) (u:ET)
def maskL:List Bool→List Oper→List Oper
 |true::m,o::l=>o::maskL m l
 |false::m,_::l=>nopO::maskL m l
 |_,_=>[]
@[go_sem] theorem fw(m:List Bool)(o:Oper)(l:List Oper):maskL (true::m) (o::l)=o::maskL m l:=(rfl)
@[go_sem] theorem fy(m:List Bool)(o:Oper)(l:List Oper):maskL (false::m) (o::l)=nopO::maskL m l:=(rfl)
@[go_sem] theorem cN(l:List Oper):maskL [] l=[]:=by cases l<;>rfl
theorem cO:∀(m:List Bool) (l:List Oper) (i:Nat),(maskL m l)[i]? =match m[i]?,l[i]? with|some true,some o=>some o|some false,some _=>some nopO|_,_=>none
 | [],l,i=>by rw[cN];simp
 |b::m,[],i=>by cases b<;>simp[maskL]
 |true::m,o::l,0=>by simp[maskL]
 |false::m,o::l,0=>by simp[maskL]
 |true::m,o::l,i+1=>by simp only[maskL,Q4];exact cO m l i
 |false::m,o::l,i+1=>by simp only[maskL,Q4];exact cO m l i
theorem gP:∀(m:List Bool) (l:List Oper),m.length≤l.length→(maskL m l).length=m.length
 | [],l,_=>by rw[cN];rfl
 |b::m,[],h=>by simp at h
 |true::m,o::l,h=>by simp only[maskL,G0];rw[gP m l (by simpa using h)]
 |false::m,o::l,h=>by simp only[maskL,G0];rw[gP m l (by simpa using h)]
def wrM:List Bool→List Oper→List Nat
 |true::m,o::l=>match o.dst with|some d=>d::wrM m l|none=>wrM m l
 |false::m,_::l=>wrM m l
 |_,_=>[]
@[go_sem] theorem Et(m:List Bool)(o:Oper)(l:List Oper):wrM (true::m) (o::l)=match o.dst with|some d=>d::wrM m l|none=>wrM m l:=(rfl)
@[go_sem] theorem Eu(m:List Bool)(o:Oper)(l:List Oper):wrM (false::m) (o::l)=wrM m l:=(rfl)
@[go_sem] theorem zM(l:List Oper):wrM [] l=[]:=by cases l<;>rfl
theorem mD:∀(m:List Bool) (l:List Oper),wrM m l=wrOps (maskL m l)
 | [],l=>by rw[zM,cN];rfl
 |b::m,[]=>by cases b<;>rfl
 |true::m,o::l=>by
  show(match o.dst with|some d=>d::wrM m l|none=>wrM m l)=(match o.dst with|some d=>d::wrOps (maskL m l)|none=>wrOps (maskL m l))
  rw[mD m l]
 |false::m,o::l=>by simp only[wrM,maskL,wrOps,nopO];rw[mD m l]
def freeO(o:Oper):Bool:=match o.op with
 | .move _| .assign _| .pick _ _ _| .extract _ _| .field _ _ _| .build _ _| .unOp _ _ _=>true
 |_=>false
def okI(ops:Array Oper)(b:Array Nat)(k:Nat)(es:List Nat)(i:Nat)(m:List Bool)(X:List Nat):Bool:=
 es.contains i&& !X.contains i&&(es.all fun x=> !(b.getD i 0).testBit x||X.contains x)&&
 ((List.range k).all fun p=>es.contains p||m.getD p false||(decide (p<i)&&(b.getD i 0).testBit p)||(es.any fun x=>X.contains x&&decide (p<x)&&(b.getD x 0).testBit p)||(ops[p]?.any freeO))&&
 ((List.range m.length).all fun p=> !m.getD p false||(decide (p<k)&& !es.contains p))&&decide (m.length≤k)
def okO(b:Array Nat)(es X is:List Nat):Bool:=
 es.all fun x=>X.contains x||is.contains x||es.any fun y=> !X.contains y&&decide (y<x)&&(b.getD x 0).testBit y
def okE(ops:Array Oper)(b:Array Nat)(k:Nat)(es:List Nat):ET→List Nat→Bool
 | .fin,X=>es.all X.contains
 | .one i m s,X=>okI ops b k es i m X&&okO b es X [i]&&okE ops b k es s (i::X)
 | .two i m s j m' u,X=>okI ops b k es i m X&&okI ops b k es j m' X&&okO b es X [i,j]&&okE ops b k es s (i::X)&&okE ops b k es u (j::X)
def chkE(l:List Oper)(k:Nat)(es:List Nat)(m0:List Bool)(tr:ET):Bool:=
 let ops:=l.toArray
 let b:=Region.before ops
 preOkG false ops k&&decide (k≤l.length)&&
 ((List.range k).all fun i=>(List.range k).all fun j=>match ops[i]?,ops[j]? with
  |some oi,some oj=>match oj.dst with
   |some d=> !(oi.looksAt ops).contains d||(decide (j<i)&&(b.getD i 0).testBit j&&(es.contains i|| !es.contains j))
   |none=>true
  |_,_=>true)&&
 ((List.range k).all fun i=>es.contains i||(ops[i]?.any fun o=>o.dst.isSome))&&
 (es.all fun e=>decide (e<k))&&m0==(List.range k).map (fun i=> !es.contains i)&&okE ops b k es tr []
section
variable {C:Ctx} {t:Env} {h:Heap}
def stepE(C:Ctx)(l:List Oper)(t0:Env)(i:Nat)(m:List Bool)(P:Env→Heap→Prop)(tc:Env)(h:Heap):Prop:=
 need (l[i]?) fun o=>wpOperV C l.toArray o tc h fun v h'=>(WPp C l.toArray (maskL m l) t0 h' fun t''=>agrL (wrM m l) t'' t0)∧P (put tc o.dst v) h'
def WPe(C:Ctx)(Q:Exit→Env→Heap→Prop)(l:List Oper)(k:Nat)(t0:Env):ET→Env→Heap→Prop
 | .fin,tc,h=>WPl C l.toArray Q (l.drop k) tc h
 | .one i m s,tc,h=>stepE C l t0 i m (WPe C Q l k t0 s) tc h
 | .two i m s j m' u,tc,h=>stepE C l t0 i m (WPe C Q l k t0 s) tc h∧stepE C l t0 j m' (WPe C Q l k t0 u) tc h
theorem rW{ops:Array Oper}{o:Oper}{s:Env}(hf:freeO o=true){v:AVal}(g:∀KK:AVal→Heap→Prop,KK v h→wpOperV C ops o s h KK)(h':Heap):∀KK:AVal→Heap→Prop,KK v h'→wpOperV C ops o s h' KK:=by
 intro KK hk;have g:=g (fun v' _=>KK v' h') hk;have key:∀K:AVal→Heap→Prop,wpOp C o.op s h (fun v' _=>K v' h')=wpOp C o.op s h' K:=by
  intro K;unfold freeO at hf;cases ho:o.op<;>rw[ho]at hf<;>first| (cases hf;done)|rfl
 unfold wpOperV at g ⊢;cases hg:o.guard with
 |none=>rw[hg]at g;simp only at g ⊢;rw[← key];exact g
 |some q=>
  obtain⟨j,w⟩:=q;rw[hg]at g;simp only at g ⊢;cases hq:guardA ops s j with
  |none=>rw[hq]at g;exact g
  |some b=>rw[hq]at g;simp only at g ⊢;rw[← key];exact g
theorem mE{V:Nat→AVal}(l:List Oper)(t:Env)(hu:∀(i j:Nat) (oi oj:Oper) (d:Nat),l[i]? =some oi→l[j]? =some oj→oi.dst=some d→oj.dst=some d→i=j):
  ∀i,i≤l.length→(∀(j:Nat) (o:Oper) (d:Nat),j<i→l[j]? =some o→o.dst=some d→Av.T V l t i d=V j)∧(∀d,(∀(j:Nat) (o:Oper),j<i→l[j]? =some o→o.dst≠some d)→Av.T V l t i d=t d)
 |0,_=>⟨fun j o d hj=>by omega,fun d _=>by rw[gJ]⟩
 |i+1,hi=>by
  obtain⟨h1,h2⟩:=mE l t hu i (by omega);have ho:l[i]? =some (l[i]'(by omega)):=G3 _;rw[eI V l t i _ ho];generalize l[i]=o at ho;refine⟨fun j oj d hj hoj hd=>?_,fun d hn=>?_⟩
  ·by_cases hji:j=i
   ·subst hji;rw[ho]at hoj;cases hoj;simp[put,hd,upd]
   ·have hne:o.dst≠some d:=fun e=>hji (hu j i oj o d hoj ho hd e)
    have:put (Av.T V l t i) o.dst (V i) d=Av.T V l t i d:=by
     cases hdo:o.dst with
     |none=>rfl
     |some x=>simp only[put,upd];rw[G2];intro e;subst e;exact hne hdo
    rw[this];exact h1 j oj d (by omega) hoj hd
  ·have hne:o.dst≠some d:=hn i o (by omega) ho;have:put (Av.T V l t i) o.dst (V i) d=Av.T V l t i d:=by
    cases hdo:o.dst with
    |none=>rfl
    |some x=>simp only[put,upd];rw[G2];intro e;subst e;exact hne hdo
   rw[this];exact h2 d fun j oj hj hoj=>hn j oj (by omega) hoj
theorem Ag.upd'{ops:Array Oper}{k:Nat}{V:Nat→AVal}{t s:Env}{p:Nat→Bool}(g:Ag ops k V t p s){i:Nat}(hp:p i=false)(v:AVal):Ag ops k (fun j=>if j=i then v else V j) t p s:=
 ⟨fun j o x hj ho hpj hd=>by
  have:j≠i:=fun e=>by subst e;rw[hp]at hpj;cases hpj
  simp only[G2 this];exact g.1 j o x hj ho hpj hd,g.2⟩
theorem Ag.congr'{ops:Array Oper}{k:Nat}{V:Nat→AVal}{t s:Env}{p p':Nat→Bool}(g:Ag ops k V t p s)(hp:∀j,j<k→p' j=p j):Ag ops k V t p' s:=
 ⟨fun j o x hj ho hpj hd=>g.1 j o x hj ho (by rw[← hp j hj];exact hpj) hd,fun x hn=>g.2 x fun j o hj ho hpj=>hn j o hj ho (by rw[hp j hj];exact hpj)⟩
theorem qj{l:List Oper}{Q:Exit→Env→Heap→Prop}{k:Nat}{es:List Nat}{t0 t:Env}(D:PreOk l.toArray k fun i j=>((Region.before l.toArray).getD j 0).testBit i)(hkn:k≤l.length)
  (c4:∀(i j:Nat) (oi oj:Oper) (d:Nat),i<k→j<k→l[i]? =some oi→l[j]? =some oj→oj.dst=some d→d∈oi.looksAt l.toArray→j<i∧((Region.before l.toArray).getD i 0).testBit j=true∧(es.contains i=true∨es.contains j=false))
  (c7:∀(i:Nat) (o:Oper),i<k→es.contains i=false→l[i]? =some o→o.dst.isSome=true)(hes:∀e,es.contains e=true→e<k)
  (hA:detGo .any l.toArray (l.length-k) (listK l.length k)=some (List.range' k (l.length-k))):
  ∀(fuel n:Nat) (L:Array Bool) (s:Env) (tr:ET) (V:Nat→AVal) (tc:Env) (h:Heap) (X:List Nat),L.size=l.length→left l.toArray L=fuel→Closed l.toArray L→(∀j,j<l.length→L.getD j false=true→j<k)→
   (∀j,es.contains j=true→(L.getD j false=X.contains j))→okE l.toArray (Region.before l.toArray) k es tr X=true→
   Ag l.toArray k V t (fun j=>L.getD j false) s→Ag l.toArray k V t (fun j=> !es.contains j) t0→Ag l.toArray k V t (fun j=> !es.contains j||X.contains j) tc→
   (∀(i:Nat) (o:Oper),i<k→es.contains i=false→L.getD i false=false→l[i]? =some o→∀KK:AVal→Heap→Prop,KK (V i) h→wpOperV C l.toArray o t0 h KK)→WPe C Q l k t0 tr tc h→
   WPix C l.toArray Q (Region.linearise.go .any l.toArray fuel n L []) s h:=by
 have hsee:∀{V:Nat→AVal} {s s':Env} {p p':Nat→Bool} {i:Nat} {o:Oper},Ag l.toArray k V t p s→Ag l.toArray k V t p' s'→i<k→l[i]? =some o→
   (∀j,j<i→((Region.before l.toArray).getD i 0).testBit j=true→(es.contains i=true∨es.contains j=false)→p j=true∧p' j=true)→∀d∈o.looksAt l.toArray,s d=s' d:=by
  intro V s s' p p' i o g g' hi ho hp d hd;by_cases hx:∃(j:Nat) (oj:Oper),j<k∧l[j]? =some oj∧oj.dst=some d
  ·obtain⟨j,oj,h1,h2,h3⟩:=hx;obtain⟨h4,h5,h6⟩:=c4 i j o oj d hi h1 ho h2 h3 hd;obtain⟨h7,h8⟩:=hp j h4 h5 h6;rw[g.1 j oj d h1 (by simpa using h2) h7 h3,g'.1 j oj d h1 (by simpa using h2) h8 h3]
  ·have hn:∀(j:Nat) (oj:Oper),j<k→l.toArray[j]? =some oj→oj.dst≠some d:=fun j oj h1 h2 h3=>hx ⟨j,oj,h1,by simpa using h2,h3⟩
   rw[g.2 d fun j oj h1 h2 _=>hn j oj h1 h2,g'.2 d fun j oj h1 h2 _=>hn j oj h1 h2]
 intro fuel;induction fuel with
 |zero=>
  intro n L s tr V tc h X hs hl cl hlt hX hok ag ag0 agc hv hw;have hall:=dG (by simpa using hs) hl;cases tr with
  |fin=>
   have hk:k=l.length:=by
    apply K7
    intro hne;have:=hlt k (by omega) (hall k (by simp;omega));omega
   subst hk;simp only[Region.linearise.go,List.reverse_nil,WPix];simp only[WPe,List.drop_length,WPl]at hw;have e:s=tc:=by
    refine Ag.eq (p:=fun _=>true) (ag.congr' fun j hj=>?_) (agc.congr' fun j hj=>?_)
    ·exact(hall j (by simpa using hj)).symm
    ·cases hc:es.contains j with
     |false=>rfl
     |true=>rw[← hX j hc,hall j (by simpa using hj)];rfl
   rw[e];exact hw
  |one i m u=>
   simp only[okE,okI,G1,N0]at hok;have h1:=hok.1.1.1.1.1.1.1;have h2:=hok.1.1.1.1.1.1.2;have:=hall i (by have:=hes i h1;simp;omega);rw[hX i h1,h2]at this;cases this
  |two i m u j m' u'=>
   simp only[okE,okI,G1,N0]at hok;have h1:=hok.1.1.1.1.1.1.1.1.1;have h2:=hok.1.1.1.1.1.1.1.1.2;have:=hall i (by have:=hes i h1;simp;omega);rw[hX i h1,h2]at this;cases this
 |succ fuel ih=>
  intro n L s tr V tc h X hs hl cl hlt hX hok ag ag0 agc hv hw;have bef:∀(i:Nat) (o:Oper),i<k→l[i]? =some o→(∀e∈o.after,Region.binds .any e=true→L.getD e.on false=true)→∀j,j<i→((Region.before l.toArray).getD i 0).testBit j=true→L.getD j false=true:=
   fun i o hi ho hrd j hj hc=>D.bef cl i o (by simpa using ho) hi j hj hc hrd
  by_cases hfin:tr=.fin
  ·subst hfin;simp only[okE,I0]at hok;have hXe:∀j,es.contains j=true→L.getD j false=true:=fun j hj=>by rw[hX j hj];exact hok j (by simpa using hj)
   have hTT:=D.ag_T V t (by simpa using hkn) k (H6 _);refine cV D .any D.less (by simpa using hkn) (V:=V) (t0:=t) (fun j=>es.contains j=false∧L.getD j false=false) (fun i o ho hoi KK hkk=>?_) ?_ _ _ _ _ (by simpa using hs) hl cl (by simpa using hlt) (fun j hj hlj=>?_) ag
   ·have hik:i<k:=by
     refine Nat.lt_of_not_le fun hle=>?_
     rw[N5,G2 (by omega)]at ho;cases ho
    have hoi':l[i]? =some o:=(by rw[N5,G5 hik]at ho;simpa using ho);have:=hv i o hik hoi.1 hoi.2 hoi' KK hkk;rw[← aU (hsee ag0 (D.ag_T V t (by simpa using hkn) i (by omega)) hik hoi' fun j hj hb he=>?_)]
    ·exact this
    ·rcases he with he|he
     ·rw[hoi.1]at he;cases he
     ·exact⟨by simp only[he];rfl,by simpa using hj⟩
   ·have:=mn (ops:=l.toArray) (Q:=Q) (md:=.any) _ _ _ (l.drop k) tc h hA (by rw[mr (by omega),H9 (by simp)]) hw;have e:Av.T V (l.toArray.toList.take k) t k=tc:=by
     refine Ag.eq (p:=fun _=>true) (hTT.congr' fun j hj=>?_) (agc.congr' fun j hj=>?_)
     ·simpa using hj
     ·cases hc:es.contains j with
      |false=>rfl
      |true=>have:=hok j (by simpa using hc);simp only[this];rfl
    rw[e];simpa using this
   ·refine⟨?_,hlj⟩;cases hc:es.contains j with
    |false=>rfl
    |true=>rw[hXe j hc]at hlj;cases hlj
  ·
   obtain⟨e0,he0,hX0⟩:∃e0,es.contains e0=true∧X.contains e0=false:=by
    cases tr with
    |fin=>exact absurd rfl hfin
    |one i m u=>
     simp only[okE,okI,G1,N0]at hok;exact⟨i,hok.1.1.1.1.1.1.1,hok.1.1.1.1.1.1.2⟩
    |two i m u j m' u'=>
     simp only[okE,okI,G1,N0]at hok;exact⟨i,hok.1.1.1.1.1.1.1.1.1,hok.1.1.1.1.1.1.1.1.2⟩
   have hek:=hes e0 he0;have heun:L.getD e0 false=false:=(by rw[hX e0 he0];exact hX0);have hne:Region.ready .any l.toArray L≠ []:=by
    have hmin:∃i,i<k∧L.getD i false=false∧∀j,j<i→L.getD j false=true:=by
     obtain⟨i,hi,hl⟩:∃i,i<k∧L.getD i false=false:=⟨e0,hek,heun⟩;induction i using Nat.strongRecOn with
     |ind i ih=>
      by_cases hall:∀j,j<i→L.getD j false=true
      ·exact⟨i,hi,hl,hall⟩
      ·have:∃j,j<i∧L.getD j false=false:=K7 fun hno=>hall fun j hj=>by
        cases hlj:L.getD j false with
        |true=>rfl
        |false=>exact absurd ⟨j,hj,hlj⟩ hno
       obtain⟨j,hj,hlj⟩:=this;exact ih j hj (by omega) hlj
    obtain⟨i,hi,hl,hall⟩:=hmin;have hin:i<l.toArray.size:=(by simp;omega);have h3:i<L.size:=(by omega);intro e;have:i∈Region.ready .any l.toArray L:=mem_ready.2 ⟨by simp[h3]at hl ⊢;exact hl,l.toArray[i],I9 hin,fun e he hb=>hall _ (D.less i _ (I9 hin) hi e he hb)⟩;rw[e]at this;cases this
   obtain⟨i,hi,hmem⟩:=bF hne n;obtain⟨hun,o,ho,hrd⟩:=mem_ready.1 hmem;have hin:=(J0.1 ho).1;have hin':i<l.length:=(by simpa using hin);have h3:i<L.size:=(by omega);have ho':l[i]? =some o:=(by simpa using ho);have hun':L.getD i false=false:=(by simp[h3]at hun ⊢;exact hun);have hik:i<k:=by
    refine Nat.lt_of_not_le fun hle=>?_
    obtain⟨e1,he1,hb,h1⟩:=D.sfx e0 i o ho hek hle;have h2:=hrd e1 he1 hb;have hkl:L.getD e0 false=true:=by
     rcases h1 with rfl| ⟨h4,h5,h6⟩
     ·exact h2
     ·have hoe:l.toArray[e1.on]? =some (l.toArray[e1.on]'(by simp;omega)):=I9 (by simp;omega);exact D.bef cl e1.on _ hoe h4 e0 h5 h6 fun e' he' hb'=>cl e1.on _ hoe h2 e' he' hb'
    rw[heun]at hkl;cases hkl
   rw[cE .any l.toArray fuel n L hi];simp only[WPix,ho];rw[d6];have hb:=bef i o hik ho' hrd;have agn:∀{V:Nat→AVal},Ag l.toArray k V t (fun j=>L.getD j false) s→Ag l.toArray k V t (fun j=>(L.setIfInBounds i true).getD j false) (put s o.dst (V i)):=fun ag=>by
    refine D.ag_put ag ho hik fun j hj=>?_
    by_cases hji:i=j
    ·subst hji;simp[h3]
    ·rw[getD_set_ne false hji];have:(j==i)=false:=by simp;exact fun e=>hji e.symm
     rw[this,T6]
   have hlt':∀j,j<l.length→(L.setIfInBounds i true).getD j false=true→j<k:=fun j hj hlj=>by
    by_cases hji:i=j
    ·subst hji;exact hik
    ·rw[getD_set_ne false hji]at hlj;exact hlt j hj hlj
   have hls:left l.toArray (L.setIfInBounds i true)=fuel:=(by have:=d7 (by simpa using hs) hin hun';omega);cases hic:es.contains i with
   |false=>
    have h9:=hv i o hik hic hun' ho';rw[← aU (hsee ag0 ag hik ho' fun j hj hbt he=>?_)]
    ·refine h9 _ ?_;refine ih _ _ _ tr V tc h X (by simpa using hs) hls (cl.set ho hrd) hlt' (fun j hj=>?_) hok (agn ag) ag0 agc (fun j oj hj hjc hjl hoj=>?_) hw
     ·have:i≠j:=fun e=>by subst e;rw[hic]at hj;cases hj
      rw[getD_set_ne false this];exact hX j hj
     ·have:i≠j:=fun e=>by subst e;simp[h3]at hjl
      rw[getD_set_ne false this]at hjl;exact hv j oj hj hjc hjl hoj
    ·rcases he with he|he
     ·rw[hic]at he;cases he
     ·exact⟨by simp only[he];rfl,hb j hj hbt⟩
   |true=>
    have hiX:X.contains i=false:=(by rw[← hX i hic];exact hun');have eff:∀(m:List Bool) (u:ET),okI l.toArray (Region.before l.toArray) k es i m X=true→okE l.toArray (Region.before l.toArray) k es u (i::X)=true→stepE C l t0 i m (WPe C Q l k t0 u) tc h→
      wpOperV C l.toArray o s h fun v h'=>WPix C l.toArray Q (Region.linearise.go .any l.toArray fuel (n/(Region.ready .any l.toArray L).length) (L.setIfInBounds i true) []) (put s o.dst v) h':=by
     intro m u hoI hoE hst;simp only[stepE,ho',aX]at hst;rw[← aU (hsee agc ag hik ho' fun j hj hbt _=>?_)]
     ·refine bG hst fun v h' ⟨hre,hnx⟩=>?_
      have agV:=ag.upd' (i:=i) (by simpa using hun') v;have ag0V:=ag0.upd' (i:=i) (by simp only[hic];rfl) v;have agcV:=agc.upd' (i:=i) (by simp only[hic,hiX];rfl) v;have e1:=agn agV;simp only[if_true]at e1;refine ih _ _ _ u (fun j=>if j=i then v else V j) (put tc o.dst v) h' (i::X) (by simpa using hs) hls (cl.set ho hrd) hlt' (fun j hj=>?_) hoE e1 ag0V ?_ (fun p op hp hpc hpl hop=>?_) hnx
      ·by_cases hji:i=j
       ·subst hji;simp[h3]
       ·rw[getD_set_ne false hji,hX j hj];rw[List.contains_cons];have:(j==i)=false:=by simp;exact fun e=>hji e.symm
        rw[this,O9]
      ·have:=D.ag_put (V:=fun j=>if j=i then v else V j) (p':=fun j=> !es.contains j||(i::X).contains j) agcV ho hik fun j hj=>by
        rw[List.contains_cons,Bool.or_comm (j==i),Bool.or_assoc]
       simpa using this
      ·have hpi:i≠p:=fun e=>by subst e;rw[hic]at hpc;cases hpc
       rw[getD_set_ne false hpi]at hpl;simp only[G2 (fun e=>hpi e.symm:¬p=i)];simp only[okI,G1,I0,M6,L7,N0,G6]at hoI;obtain⟨⟨⟨⟨⟨_,_⟩,_⟩,hms⟩,hml⟩,hmk⟩:=hoI;rcases hms p hp with(((h4|h4)|h4)|h4)|h4
       ·rw[hpc]at h4;cases h4
       ·
        obtain⟨V2,hv2,hK2⟩:=bS _ _ hre;rw[mD]at hK2;have hmlen:m.length≤l.length:=(by omega);have hget:∀q oq,(maskL m l)[q]? =some oq→oq=nopO∨(m.getD q false=true∧l[q]? =some oq):=fun q oq hq=>by
         rw[cO]at hq;split at hq
         ·rename_i h5 h6;cases hq;exact .inr ⟨by simp[List.getD,h5],h6⟩
         ·cases hq;exact .inl rfl
         ·cases hq
        have hgm:∀q oq,m.getD q false=true→l[q]? =some oq→(maskL m l)[q]? =some oq:=fun q oq h5 h6=>by
         rw[cO];have:m[q]? =some true:=by
          cases hm:m[q]? with
          |none=>simp[List.getD,hm]at h5
          |some b=>simp[List.getD,hm]at h5;subst h5;rfl
         rw[this,h6]
        have hmP:∀q,m.getD q false=true→q<k∧es.contains q=false:=fun q h5=>by
         have hq:q<m.length:=by
          apply K7
          intro hn;rw[List.getD,O7 (by omega)]at h5;cases h5
         rcases hml q hq with h6|h6
         ·rw[h5]at h6;cases h6
         ·exact h6
        have hu:∀(a b:Nat) (oa ob:Oper) (d:Nat),(maskL m l)[a]? =some oa→(maskL m l)[b]? =some ob→oa.dst=some d→ob.dst=some d→a=b:=fun a b oa ob d h5 h6 h7 h8=>by
         rcases hget a oa h5 with rfl| ⟨ha,hoa⟩
         ·cases h7
         rcases hget b ob h6 with rfl| ⟨hb',hob⟩
         ·cases h8
         rcases P1 a b with h9|h9|h9
         ·exact absurd h8 ((D.pre a b oa ob (by simpa using hoa) (by simpa using hob) h9 (hmP b hb').1).2 d h7)
         ·exact h9
         ·exact absurd h7 ((D.pre b a ob oa (by simpa using hob) (by simpa using hoa) h9 (hmP a ha).1).2 d h8)
        have hT:=fun q (hq:q≤(maskL m l).length)=>mE (V:=V2) (maskL m l) t0 hu q hq
        have hV2:∀q oq d,(maskL m l)[q]? =some oq→oq.dst=some d→V2 q=t0 d:=fun q oq d h5 h6=>by
         have h7:=iK hK2 d (jJ h5 h6);rw[(hT _ (H6 _)).1 q oq d (F1.1 h5).1 h5 h6]at h7;exact h7
        have hTt:∀q,q≤(maskL m l).length→Av.T V2 (maskL m l) t0 q=t0:=fun q hq=>by
         funext d
         by_cases hx:∃(a:Nat) (oa:Oper),a<q∧(maskL m l)[a]? =some oa∧oa.dst=some d
         ·obtain⟨a,oa,h5,h6,h7⟩:=hx;rw[(hT q hq).1 a oa d h5 h6 h7,hV2 a oa d h6 h7]
         ·exact(hT q hq).2 d fun a oa h5 h6 h7=>hx ⟨a,oa,h5,h6,h7⟩
        have hg:=hgm p op h4 hop;have:=hv2 p op hg;rw[hTt p (Nat.le_of_lt (F1.1 hg).1)]at this;obtain⟨d,hd⟩:=J8.1 (c7 p op hp hpc hop);have h5:V2 p=V p:=by
         rw[hV2 p op d hg hd];exact ag0.1 p op d hp (by simpa using hop) (by simp only[hpc];rfl) hd
        rw[h5]at this;exact this
       ·
        rw[hb p h4.1 h4.2]at hpl;cases hpl
       ·
        obtain⟨x,hxe,hx⟩:=U6.1 h4;simp only[G1,G6]at hx;have hxe':es.contains x=true:=(by simpa using hxe);have hxk:=hes x hxe';have hxl:L.getD x false=true:=(by rw[hX x hxe'];exact hx.1.1);have hox:l.toArray[x]? =some (l.toArray[x]'(by simp;omega)):=I9 (by simp;omega);have:=D.bef cl x _ hox hxk p hx.1.2 hx.2 (fun e he hbd=>cl x _ hox hxl e he hbd);rw[this]at hpl;cases hpl
       ·rw[R0,hop]at h4;exact rW (by simpa using h4) (hv p op hp hpc hpl hop) h'
     ·have hLj:=hb j hj hbt;refine⟨?_,hLj⟩;cases hc:es.contains j with
      |false=>rfl
      |true=>rw[← hX j hc,hLj];rfl
    have other:∀is:List Nat,okO (Region.before l.toArray) es X is=true→is.contains i=true:=fun is ho=>by
     simp only[okO,I0,L7]at ho;rcases ho i (by simpa using hic)with(h4|h4)|h4
     ·rw[hiX]at h4;cases h4
     ·exact h4
     ·obtain⟨y,hy,h5⟩:=U6.1 h4;simp only[G1,N0,G6]at h5;have:=hb y h5.1.2 h5.2;rw[hX y (by simpa using hy),h5.1.1]at this;cases this
    cases tr with
    |fin=>exact absurd rfl hfin
    |one i' m u=>
     simp only[okE,G1]at hok;have:i=i':=by simpa using other [i'] hok.1.2
     subst this;exact eff m u hok.1.1 hok.2 hw
    |two i' m u j' m' u'=>
     simp only[okE,G1]at hok;have:i=i'∨i=j':=by simpa using other [i',j'] hok.1.1.2
     rcases this with rfl|rfl
     ·exact eff m u hok.1.1.1.1 hok.1.2 hw.1
     ·exact eff m' u' hok.1.1.1.2 hok.2 hw.2
theorem eP{id:Nat}{l:List Oper}{Q:Exit→Env→Heap→Prop}(k:Nat)(es:List Nat)(m0:List Bool)(tr:ET)(hok:chkE l k es m0 tr=true)(hm:C.P.follows .mixedOrders=true)
  (hA:detGo .any l.toArray (l.length-k) (listK l.length k)=some (List.range' k (l.length-k)))
  (hh:WPp C l.toArray (maskL m0 l) t h fun t0=>WPe C Q l k t0 tr t0 h):WP C (.region id l.toArray true) Q t h:=by
 unfold chkE at hok;simp only[G1,G6,beq_iff_eq]at hok;obtain⟨⟨⟨⟨⟨⟨hpre,hkn⟩,hc4⟩,hc7⟩,hes⟩,hm0⟩,hE⟩:=hok;have D:=fh hpre;simp only[I0,M6]at hc4 hc7;have c4:∀(i j:Nat) (oi oj:Oper) (d:Nat),i<k→j<k→l[i]? =some oi→l[j]? =some oj→oj.dst=some d→d∈oi.looksAt l.toArray→j<i∧((Region.before l.toArray).getD i 0).testBit j=true∧(es.contains i=true∨es.contains j=false):=by
  intro i j oi oj d hi hj hoi hoj hd hl;have:=hc4 i hi j hj;rw[R0,R0,hoi,hoj]at this;simp only[hd,L7,G1,N0,G6]at this;rcases this with h1|h1
  ·have:(oi.looksAt l.toArray).contains d=true:=by simpa using hl
   rw[h1]at this;cases this
  ·exact⟨h1.1.1,h1.1.2,h1.2⟩
 have c7:∀(i:Nat) (o:Oper),i<k→es.contains i=false→l[i]? =some o→o.dst.isSome=true:=by
  intro i o hi he ho;have:=hc7 i hi;rw[R0,ho,he]at this;simpa using this
 have hes':∀e,es.contains e=true→e<k:=fun e he=>by
  have:=I0.1 hes e (by simpa using he);simpa using this
 obtain⟨V,hv,hK⟩:=bS _ _ hh;have hm0l:m0.length=k:=by rw[hm0];simp
 have hml:=gP m0 l (by omega);have hm0g:∀q,q<k→m0[q]? =some (!es.contains q):=fun q hq=>by rw[hm0];simp[hq]
 have hget:∀q oq,(maskL m0 l)[q]? =some oq→oq=nopO∨(q<k∧es.contains q=false∧l[q]? =some oq):=fun q oq hq=>by
  have hqk:q<k:=by have:=(F1.1 hq).1;omega
  rw[cO,hm0g q hqk]at hq;cases hc:es.contains q with
  |true=>rw[hc]at hq;cases hl:l[q]? with
   |none=>rw[hl]at hq;cases hq
   |some o=>rw[hl]at hq;cases hq;exact .inl rfl
  |false=>rw[hc]at hq;cases hl:l[q]? with
   |none=>rw[hl]at hq;cases hq
   |some o=>rw[hl]at hq;cases hq;exact .inr ⟨hqk,rfl,rfl⟩
 have hgm:∀q oq,q<k→es.contains q=false→l[q]? =some oq→(maskL m0 l)[q]? =some oq:=fun q oq hq hc h6=>by
  rw[cO,hm0g q hq,hc,h6];rfl
 have hu:∀(a b:Nat) (oa ob:Oper) (d:Nat),(maskL m0 l)[a]? =some oa→(maskL m0 l)[b]? =some ob→oa.dst=some d→ob.dst=some d→a=b:=fun a b oa ob d h5 h6 h7 h8=>by
  rcases hget a oa h5 with rfl| ⟨ha,_,hoa⟩
  ·cases h7
  rcases hget b ob h6 with rfl| ⟨hb',_,hob⟩
  ·cases h8
  rcases P1 a b with h9|h9|h9
  ·exact absurd h8 ((D.pre a b oa ob (by simpa using hoa) (by simpa using hob) h9 hb').2 d h7)
  ·exact h9
  ·exact absurd h7 ((D.pre b a ob oa (by simpa using hob) (by simpa using hoa) h9 ha).2 d h8)
 have hT:=fun q (hq:q≤(maskL m0 l).length)=>mE (V:=V) (maskL m0 l) t hu q hq
 generalize ht0:Av.T V (maskL m0 l) t (maskL m0 l).length=t0 at hK;have ag0:Ag l.toArray k V t (fun j=> !es.contains j) t0:=by
  rw[← ht0];refine⟨fun j o x hj ho hp hd=>?_,fun x hn=>?_⟩
  ·have hc:es.contains j=false:=(by simpa using hp);exact(hT _ (H6 _)).1 j o x (by omega) (hgm j o hj hc (by simpa using ho)) hd
  ·refine(hT _ (H6 _)).2 x fun j o hj ho hd=>?_
   rcases hget j o ho with rfl| ⟨h1,h2,h3⟩
   ·cases hd
   ·exact hn j o h1 (by simpa using h3) (by simp only[h2];rfl) hd
 have main:∀n,WPix C l.toArray Q (Region.linearise .any l.toArray n) t h:=fun n=>by
  unfold Region.linearise;refine qj D hkn c4 c7 hes' hA _ n _ t tr V t0 h [] (by simp) ?_ (fun j oj hj hl=>?_) (fun j hj hl=>?_) (fun j hj=>?_) hE (Ag.start _ _ _ _ fun j hj=>?_) ag0 (ag0.congr' fun j hj=>by simp) (fun i o hi hc _ ho KK hkk=>?_) hK
  ·unfold left;have:(List.range l.toArray.size).filter (fun i=> !(Array.replicate l.toArray.size false).getD i true)=List.range l.toArray.size:=by
    rw[P8];intro i hi;have:=M6.1 hi;simp at this ⊢;simp[this]
   rw[this,R6]
  ·have h8:=(J0.1 hj).1;simp at h8 hl;simp[h8]at hl
  ·simp at hl;simp[hj]at hl
  ·have:=hes' j hj;have:j<l.length:=by omega
   simp[this]
  ·have:j<l.length:=by omega
   simp[this]
  ·have hg:=hgm i o hi hc ho;have:=hv i o hg KK hkk;have hil:i≤(maskL m0 l).length:=(by omega);rw[aU (t2:=t0) fun d hd=>?_]at this
   ·exact this
   ·by_cases hx:∃(j:Nat) (oj:Oper),j<k∧l[j]? =some oj∧oj.dst=some d
    ·obtain⟨j,oj,h1,h2,h3⟩:=hx;obtain⟨h4,_,h5⟩:=c4 i j o oj d hi h1 ho h2 h3 hd;have hcj:es.contains j=false:=by
      rcases h5 with h5|h5
      ·rw[hc]at h5;cases h5
      ·exact h5
     rw[(hT i hil).1 j oj d h4 (hgm j oj h1 hcj h2) h3,ag0.1 j oj d h1 (by simpa using h2) (by simp only[hcj];rfl) h3]
    ·rw[(hT i hil).2 d fun j oj h1 h2 h3=>?_,ag0.2 d fun j oj h1 h2 _ h3=>hx ⟨j,oj,h1,by simpa using h2,h3⟩];rcases hget j oj h2 with rfl| ⟨h5,_,h6⟩
     ·cases h3
     ·exact hx ⟨j,oj,h5,h6,h3⟩
 show ∀tp,WPix C l.toArray Q (Region.schedule (C.P.follows .mixedOrders) l.toArray tp) t h;intro tp;unfold Region.schedule;rw[hm];simp only[M4,if_true];exact main _
variable {l:List Oper} {Q:Exit→Env→Heap→Prop} {k:Nat} {t0 tc:Env} {ops:Array Oper} {dst:Option Tmp} {ty:TypeId} {pos:String} {aft:Array Edge} {K:AVal→Heap→Prop}
@[congr] theorem yz(i:Nat)(m:List Bool)(P:Env→Heap→Prop){h h':Heap}(e:h=h'):stepE C l t0 i m P tc h=stepE C l t0 i m P tc h':=by rw[e]
@[congr] theorem B9(tr:ET){h h':Heap}(e:h=h'):WPe C Q l k t0 tr tc h=WPe C Q l k t0 tr tc h':=by rw[e]
@[go_sem] theorem Cm(i:Nat)(m:List Bool)(P:Env→Heap→Prop):stepE C l t0 i m P tc h=need (l[i]?) fun o=>wpOperV C l.toArray o tc h fun v h'=>(WPp C l.toArray (maskL m l) t0 h' fun t''=>agrL (wrM m l) t'' t0)∧P (put tc o.dst v) h':=(rfl)
attribute [go_sem] List.drop_succ_cons List.drop_zero
variable {t:Env} {e:TypeId} {T:TypeId}
@[go_sem] theorem Ba:wpOperV C ops ⟨dst,.alloc e,ty,pos,aft,none⟩ t h K=
  need (zroT C.P e) fun z=>0<z.cells.length∧z.cells.all AVal.sto=true∧z.lies=true∧K (.hp h.length 0 0 0) (h++[.row e z.cells.length 0 [z]]):=(rfl)
@[go_sem] theorem DS(rest:List Oper)(K:Env→Prop):WPp C ops (nopO::rest) t h K=WPp C ops rest t h K:=tC (dst:=none) (.const (.bool false))
@[congr] theorem zN{l l':List Oper}{t t':Env}{h h':Heap}{K:Env→Prop}(e1:l=l')(e2:t=t')(e3:h=h'):WPp C ops l t h K=WPp C ops l' t' h' K:=by rw[e1,e2,e3]
@[go_sem] theorem Cn(f:Operand)(args:Array Operand)(Ts:Array TypeId):wpOperV C ops ⟨dst,.call ⟨.value f,args,Ts⟩,ty,pos,aft,none⟩ t h K=callK C (aev C.G t f) (args.toList.map (aev C.G t)) h K:=by
 show wpCall C ⟨.value f,args,Ts⟩ t h K=_;rfl
@[go_sem] theorem Bb(parts:Array (Nat×Operand)):wpOperV C ops ⟨dst,.build T parts,ty,pos,aft,none⟩ t h K=need (buildA C T (parts.toList.map fun q=>(q.1,aev C.G t q.2))) fun v=>K v h:=by
 show wpOp C (.build T parts) t h K=_;have:=jZ (C:=C) (ops:= #[]) (Q:=fun _ t h=>K (t 0) h) (rest:=[]) (t:=t) (h:=h) (dst:=some 0) (ty:=0) (pos:= "") (aft:= #[]) T parts;simpa [WPl,wpOper,put,upd]using this
theorem bB(g:WPl C l.toArray Q (l.drop k) tc h):WPe C Q l k t0 .fin tc h:=g
theorem bC{i:Nat}{m:List Bool}{s:ET}(g:stepE C l t0 i m (WPe C Q l k t0 s) tc h):WPe C Q l k t0 (.one i m s) tc h:=g
theorem bD{i j:Nat}{m m':List Bool}{s u:ET}(g:stepE C l t0 i m (WPe C Q l k t0 s) tc h)(g':stepE C l t0 j m' (WPe C Q l k t0 u) tc h):WPe C Q l k t0 (.two i m s j m' u) tc h:=⟨g,g'⟩
end
end Go.Av
namespace Go.Av
open Go Go.Proofs Go.RowKit
theorem xH(G:Nat→Option (List AVal)):(CT G).P.follows .mixedOrders=true:=by kernel_rfl
theorem mF{C:Ctx}{t:Env}{h:Heap}{id:Nat}{l:List Oper}{Q:Exit→Env→Heap→Prop}(hok:preOkG false l.toArray l.length=true)(hm:C.P.follows .mixedOrders=true)
  (hh:WPp C l.toArray l t h fun t'=>Q .normal t' h):WP C (.region id l.toArray true) Q t h:=by
 have D:=fh hok;obtain⟨V,hv,hK⟩:=bS _ _ hh;have htk:l.toArray.toList.take l.length=l:=by simp
 have main:∀n,WPix C l.toArray Q (Region.linearise .any l.toArray n) t h:=fun n=>by
  unfold Region.linearise;refine cV D .any D.less (by simp) (V:=V) (t0:=t) (fun _=>True) (fun i o hi _=>by rw[htk]at hi ⊢;exact hv i o hi) (fun n=>?_) _ _ _ _ (by simp) ?_ (fun j oj hj hl=>?_) (fun j hj hl=>?_) (fun _ _ _=>trivial) (Ag.start _ _ _ _ fun j hj=>?_)
  ·rw[htk];have e1:l.toArray.size-l.length=0:=(by simp);rw[e1];exact Rest.nil hK .any n
  ·unfold left;have:(List.range l.toArray.size).filter (fun i=> !(Array.replicate l.toArray.size false).getD i true)=List.range l.toArray.size:=by
    rw[P8];intro i hi;have:=M6.1 hi;simp at this ⊢;simp[this]
   rw[this,R6]
  ·have h8:=(J0.1 hj).1;simp at h8 hl;simp[h8]at hl
  ·simp at hj hl;simp[hj]at hl
  ·have:j<l.length:=by omega
   simp[this]
 show ∀tp,WPix C l.toArray Q (Region.schedule (C.P.follows .mixedOrders) l.toArray tp) t h;intro tp;unfold Region.schedule;rw[hm];simp only[M4,if_true];exact main _
end Go.Av
namespace Go.Av
open Go Go.Proofs Go.RowKit
attribute [local irreducible] WP WPl WPix Sat
variable (G:Nat→Option (List AVal))
theorem cm{a b:Int}(h0:0≤a):a.tdiv b=a/b:=M0 h0
theorem aY{a b:Int}(h0:0≤a):a.tmod b=a%b:=L6 h0
def Dt.av(x:Dt):AVal:=.agg [.int .i64 x.y,.int .i64 x.m,.int .i64 x.d,.int .i64 x.h,.int .i64 x.i,.int .i64 x.s]
@[go_sem] theorem Dt.av_eq(x:Dt):x.av=.agg [.int .i64 x.y,.int .i64 x.m,.int .i64 x.d,.int .i64 x.h,.int .i64 x.i,.int .i64 x.s]:=(rfl)
theorem rX(y:Int)(hy:0≤y)(h:Heap):Sat (CT G) 232 [.int .i64 y] h (fun r h'=>r=.bool (leapF y)∧h'=h):=by
 unfold leapF;by_cases a:y%4=0
 ·have a1:(y%4==0)=true:=by simp[a]
  by_cases b:y%100=0
  ·have b1:(y%100 !=0)=false:=(by simp[b]);have F:=F4 a1 b1 @aY hy;refine sb [.tmp 2] Tryz.func232 ?_;intro Q hQ;refine wk F ?_;refine ee hQ F ?_;exact J9 (.bool _) ⟨by simp[a,b];rfl,rfl⟩
  ·have b1:(y%100 !=0)=true:=(by simp[b]);have F:=F4 a1 b1 @aY hy;refine sb [.tmp 2] Tryz.func232 ?_;intro Q hQ;refine wk F ?_;refine ee hQ F ?_;exact J9 (.bool _) ⟨by simp[a,b],rfl⟩
 ·have a1:(y%4==0)=false:=by simp[a]
  have F:=F3 a1 @aY hy;refine sb [.tmp 2] Tryz.func232 ?_;intro Q hQ;refine wk F ?_;refine ee hQ F ?_;exact J9 (.bool _) ⟨by simp[a],rfl⟩
theorem rY(y m:Int)(h:Heap):Sat (CT G) 229 [.int .i64 y,.int .i64 m] h (fun r h'=>r=.int .i64 (daysF y m)∧h'=h):=by
 have dt:∀i:Decidable True, @decide True i=true:=fun i=>by simp
 have df:∀i:Decidable False, @decide False i=false:=fun i=>by simp
 by_cases y1:y<1
 ·have e:daysF y m=0:=by unfold daysF;rw[G5 (by omega)]
  have q:=H0 y1;have F:=F3 q dt df;refine sb [.tmp 4] Tryz.func229 ?_;intro Q hQ;refine wk F ?_;refine ee hQ F ?_;exact J9 (.int _ _) ⟨by rw[e],rfl⟩
 have q1:=H3 y1;by_cases y2:y>9999
 ·have e:daysF y m=0:=by unfold daysF;rw[G5 (by omega)]
  have q:=H0 y2;have F:=F4 q1 q dt df;refine sb [.tmp 4] Tryz.func229 ?_;intro Q hQ;refine wk F ?_;refine ee hQ F ?_;exact J9 (.int _ _) ⟨by rw[e],rfl⟩
 have q2:=H3 y2;by_cases m1:m<1
 ·have e:daysF y m=0:=by unfold daysF;rw[G5 (by omega)]
  have q:=H0 m1;have F:=F5 q1 q2 q dt df;refine sb [.tmp 4] Tryz.func229 ?_;intro Q hQ;refine wk F ?_;refine ee hQ F ?_;exact J9 (.int _ _) ⟨by rw[e],rfl⟩
 have q3:=H3 m1;by_cases m2:m>12
 ·have e:daysF y m=0:=by unfold daysF;rw[G5 (by omega)]
  have q:=H0 m2;have F:=F6 q1 q2 q3 q dt df;refine sb [.tmp 4] Tryz.func229 ?_;intro Q hQ;refine wk F ?_;refine ee hQ F ?_;exact J9 (.int _ _) ⟨by rw[e],rfl⟩
 have q4:=H3 m2;have hr:¬(y<1∨9999<y∨m<1∨12<m):=by omega
 by_cases m3:m=2
 ·subst m3;have hL:=rX G y (by omega);have e:daysF y 2=if leapF y then 29 else 28:=by unfold daysF;rw[G2 hr,G5 rfl]
  cases hl:leapF y with
  |true=>
   rw[hl]at hL e;have F:=F4 q1 q2 dt df;refine sb [.tmp 4] Tryz.func229 ?_;intro Q hQ;refine wk F ?_;refine kq F (hL _) ?_;refine ee hQ F ?_;exact J9 (.int _ _) ⟨by rw[e];rfl,rfl⟩
  |false=>
   rw[hl]at hL e;have F:=F4 q1 q2 dt df;refine sb [.tmp 4] Tryz.func229 ?_;intro Q hQ;refine wk F ?_;refine kq F (hL _) ?_;refine ee hQ F ?_;exact J9 (.int _ _) ⟨by rw[e];rfl,rfl⟩
 ·have q5:(m==2)=false:=by simpa using m3
  have e:daysF y m=30+(m+m/8)%2:=by
   have hm:m=1∨m=3∨m=4∨m=5∨m=6∨m=7∨m=8∨m=9∨m=10∨m=11∨m=12:=(by omega);rcases hm with rfl|rfl|rfl|rfl|rfl|rfl|rfl|rfl|rfl|rfl|rfl<;>(unfold daysF;rw[G2 hr];rfl)
  have F:=F9 q1 q2 q3 q4 q5 dt df @cm @aY;refine sb [.tmp 4] Tryz.func229 ?_;intro Q hQ;refine wk F ?_;refine ee hQ F ?_;exact J9 (.int _ _) ⟨by rw[e],rfl⟩
theorem jl(x:Dt):okD x=((decide (1≤x.d)&&decide (x.d≤daysF x.y x.m))&&((decide (0≤x.h)&&decide (x.h≤23))&&((decide (0≤x.i)&&decide (x.i≤59))&&(decide (0≤x.s)&&decide (x.s≤59))))):=by
 unfold okD;simp only[Bool.and_assoc]
theorem qk(x:Dt)(h:Heap):Sat (CT G) 225 [x.av] h (fun r h'=>r=.int .i64 (if okD x then 0 else 40)∧h'=h):=by
 have hD:=rY G x.y x.m;have hW1:=bV G x.d 1 (daysF x.y x.m);have hW2:=bV G x.h 0 23;have hW3:=bV G x.i 0 59;have hW4:=bV G x.s 0 59;rw[jl];generalize (decide (1≤x.d)&&decide (x.d≤daysF x.y x.m))=b1 at*;generalize (decide (0≤x.h)&&decide (x.h≤23))=b2 at*;generalize (decide (0≤x.i)&&decide (x.i≤59))=b3 at*;generalize (decide (0≤x.s)&&decide (x.s≤59))=b4 at*;generalize daysF x.y x.m=dd at*;obtain⟨y,m,d,hh,i,s⟩:=x;rw[Dt.av_eq];simp only[]at*;cases b1 with
 |false=>
  refine sb [.tmp 2] Tryz.func225 ?_;intro Q hQ;refine wk trivial ?_;refine ab (hD _) ?_;try refine sq trivial ?_
  refine wk trivial ?_;refine ab (hW1 _) ?_;try refine sq trivial ?_
  refine wk trivial ?_;refine ee hQ trivial ?_;exact I3 (.int _ _) ⟨rfl,rfl⟩
 |true=>
  cases b2 with
  |false=>
   refine sb [.tmp 2] Tryz.func225 ?_;intro Q hQ;refine wk trivial ?_;refine ab (hD _) ?_;(try refine sq trivial ?_);refine wk trivial ?_;refine ab (hW1 _) ?_;(try refine sq trivial ?_);refine wk trivial ?_;refine ab (hW2 _) ?_;(try refine sq trivial ?_);refine wk trivial ?_;refine ee hQ trivial ?_;exact I3 (.int _ _) ⟨rfl,rfl⟩
  |true=>
   cases b3 with
   |false=>
    refine sb [.tmp 2] Tryz.func225 ?_;intro Q hQ;refine wk trivial ?_;refine ab (hD _) ?_;(try refine sq trivial ?_);refine wk trivial ?_;refine ab (hW1 _) ?_;(try refine sq trivial ?_);refine wk trivial ?_;refine ab (hW2 _) ?_;(try refine sq trivial ?_);refine wk trivial ?_;refine ab (hW3 _) ?_;(try refine sq trivial ?_);refine wk trivial ?_;refine ee hQ trivial ?_;exact I3 (.int _ _) ⟨rfl,rfl⟩
   |true=>
    cases b4<;>(
     refine sb [.tmp 2] Tryz.func225 ?_;intro Q hQ;refine wk trivial ?_;refine ab (hD _) ?_;(try refine sq trivial ?_);refine wk trivial ?_;refine ab (hW1 _) ?_;(try refine sq trivial ?_);refine wk trivial ?_;refine ab (hW2 _) ?_;(try refine sq trivial ?_);refine wk trivial ?_;refine ab (hW3 _) ?_;(try refine sq trivial ?_);refine wk trivial ?_;refine ab (hW4 _) ?_;(try refine sq trivial ?_);refine wk trivial ?_;refine ee hQ trivial ?_;exact I3 (.int _ _) ⟨rfl,rfl⟩)
theorem di(y m:Int):0≤daysF y m∧daysF y m≤31∧(1≤daysF y m→1≤y∧y≤9999∧1≤m∧m≤12):=by
 unfold daysF;split
 ·omega
 ·split
  ·split<;>omega
  ·split<;>omega
theorem bX{x:Dt}(h:okD x=true):1≤x.y∧x.y≤9999∧1≤x.m∧x.m≤12∧1≤x.d∧x.d≤31∧0≤x.h∧x.h≤23∧0≤x.i∧x.i≤59∧0≤x.s∧x.s≤59:=by
 unfold okD at h;simp only[G1,G6]at h;have:=di x.y x.m;omega
theorem rZ(x:Dt)(h1:1≤x.y∧x.y≤9999)(h2:1≤x.m∧x.m≤12)(h3:1≤x.d∧x.d≤31)(h:Heap):Sat (CT G) 226 [x.av] h (fun r h'=>r=.int .i64 (dayP x.y x.m x.d)∧h'=h):=by
 obtain⟨y,m,d,hh,i,s⟩:=x;rw[Dt.av_eq];simp only[]at*;obtain⟨y1,y2⟩:=h1;obtain⟨m1,m2⟩:=h2;obtain⟨d1,d2⟩:=h3;unfold dayP dayM;by_cases c:m<3
 ·have q:decide (m-3<0)=true:=by simp;omega
  have e9:m-3+12=m+9:=by omega
  rw[G5 c];have F:=F3 q @cm @aY
  skip
  refine sb [.tmp 2] Tryz.func226 ?_;intro Q hQ;refine wn F ?_;refine mF (by decide+kernel) (xH G) ?_;refine sq F ?_;refine wn F ?_
  skip
  refine ee hQ F ?_;rw[e9];exact I3 (.int _ _) ⟨rfl,rfl⟩
 ·have q:decide (m-3<0)=false:=by simp;omega
  rw[G2 c];have F:=F3 q @cm @aY
  skip
  refine sb [.tmp 2] Tryz.func226 ?_;intro Q hQ;refine wn F ?_;refine mF (by decide+kernel) (xH G) ?_;refine sq F ?_;refine wn F ?_
  skip
  refine ee hQ F ?_;exact I3 (.int _ _) ⟨rfl,rfl⟩
theorem jN{y m d:Int}(h1:1≤y∧y≤9999)(h2:1≤m∧m≤12)(h3:1≤d∧d≤31): -800000≤dayP y m d∧dayP y m d≤3000000:=by
 unfold dayP dayM;split<;>omega
theorem uz(x:Dt)(h:Heap):Sat (CT G) 221 [x.av] h (fun r h'=>r=.tup [.int .i64 (if okD x then momD x else 0),.int .i64 (if okD x then 0 else 40)]∧h'=h):=by
 have hC:=qk G x;cases hk:okD x with
 |false=>
  rw[hk]at hC;obtain⟨y,m,d,hh,i,s⟩:=x;simp only[Dt.av_eq]at*;refine sb [.tmp 2,.tmp 3] Tryz.func221 ?_;intro Q hQ;refine wk trivial ?_;refine kq trivial (hC _) ?_;refine ee hQ trivial ?_;exact I3 (.tup _ (fun x hx=>by simp only[J5,O3,or_false]at hx;rcases hx with rfl|rfl<;>exact .int _ _)) ⟨rfl,rfl⟩
 |true=>
  rw[hk]at hC;obtain⟨k1,k2,k3,k4,k5,k6,k7,k8,k9,k10,k11,k12⟩:=bX hk;have hD:=rZ G x ⟨k1,k2⟩ ⟨k3,k4⟩ ⟨k5,k6⟩;have hb:=jN ⟨k1,k2⟩ ⟨k3,k4⟩ ⟨k5,k6⟩;unfold momD;obtain⟨y,m,d,hh,i,s⟩:=x;simp only[Dt.av_eq]at*;generalize dayP y m d=dd at*;refine sb [.tmp 2,.tmp 3] Tryz.func221 ?_;intro Q hQ;refine wk trivial ?_;refine kq trivial (hC _) ?_;refine ab (hD _) ?_;try refine sq trivial ?_
  refine wk trivial ?_;refine ee hQ trivial ?_;exact I3 (.tup _ (fun x hx=>by simp only[J5,O3,or_false]at hx;rcases hx with rfl|rfl<;>exact .int _ _)) ⟨rfl,rfl⟩
theorem mG{s s':Bs}{b b' c:Bool}{z:Int}(e:(Rdr.mk s b).off c=(z,⟨s',b'⟩))(hs:s.length≤1073741824){H:Heap}{p:Nat}(hg:getRow H p 0=some (188,2,[.agg [.str s,.bool b]])):
  Sat (CT G) 211 [.hp p 0 0 0,.bool c] H (fun r h'=>(r=.int .i64 z∧h'=H.set p (dR s' b'))):=by
 have hp:=ax hg;have hgs:∀s b,getRow (H.set p (dR s b)) p 0=some (188,2,[.agg [.str s,.bool b]]):=fun s b=>by rw[bE _ _ _ _ _ hp];rfl
 rcases e1:(Rdr.mk s b).sign [43,45]with⟨sg,s1,b1⟩;rcases e2:(Rdr.mk s1 b1).digits 2 with⟨hh,s2,b2⟩;rcases e3:(Rdr.mk s2 b2).sign [58]with⟨x3,s3,b3⟩;have l1:s1.length≤s.length:=by
  have:=Rdr.sign_le (r:=⟨s,b⟩) (l:=[43,45]);rw[e1]at this;exact this
 have l2:s2.length≤s1.length:=by
  have:=Rdr.digits_le (r:=⟨s1,b1⟩) (w:=2);rw[e2]at this;exact this
 have l3:s3.length≤s2.length:=by
  have:=Rdr.sign_le (r:=⟨s2,b2⟩) (l:=[58]);rw[e3]at this;exact this
 have hb2:=bc e2;have end_:∀(s4:Bs) (b4:Bool) (m:Int),(if c=true then(Rdr.mk s3 b3).digits 2 else(Rdr.mk s2 b2).digits 2)=(m,⟨s4,b4⟩)→z=(if sg=45 then -(3600*hh+60*m)else 3600*hh+60*m)∧s'=s4∧b'=(b4||(decide (hh>23)||decide (m>59))):=by
  intro s4 b4 m hm;unfold Rdr.off at e;simp only[e1,e2,e3]at e;cases c with
  |true=>simp only[if_true]at hm e;rw[hm]at e;cases e;exact⟨rfl,rfl,rfl⟩
  |false=>simp only[I4,if_false]at hm e;rw[hm]at e;cases e;exact⟨rfl,rfl,rfl⟩
 have fin:∀x:Int,Fin H (H.set p (dR s' b')) (fun r h'=>r=.int .i64 x∧h'=H.set p (dR s' b')) (.int .i64 x):=fun x=>aT (fun _=>.int _ _)
 have S1:=dL G e1 hg;have S2:=aS G e2 (by omega) (by omega) (hgs s1 b1);have S3:=dL G e3 (hgs s2 b2);rw[T4]at S2 S3;have body:∀(s4:Bs) (b4:Bool) (m:Int),(if c=true then(Rdr.mk s3 b3).digits 2 else(Rdr.mk s2 b2).digits 2)=(m,⟨s4,b4⟩)→0≤m→m<100→
   (∀s5 b5,s5=(if c=true then s3 else s2)→b5=(if c=true then b3 else b2)→Sat (CT G) 197 [.hp p 0 0 0,.int .i64 2] (H.set p (dR s5 b5)) (fun r h'=>r=.int .i64 m∧h'=H.set p (dR s4 b4)))→
   Sat (CT G) 211 [.hp p 0 0 0,.bool c] H (fun r h'=>(r=.int .i64 z∧h'=H.set p (dR s' b'))):=by
  intro s4 b4 m hm m0 m1 S4;obtain⟨rfl,rfl,hb'⟩:=end_ s4 b4 m hm;clear end_ hm;have h10:(10:Int)^2=100:=rfl;rw[h10]at hb2;generalize q1:decide (hh>23)=d1 at*;generalize q2:decide (m>59)=d2 at*;have hw:=hgs s' b4;have h3:b4=true∨(b4=false∧d1=true)∨(b4=false∧d1=false):=by cases b4<;>cases d1<;>simp
  by_cases h45:sg=45
  ·rw[G5 h45]at*;have q4:(sg==45)=true:=(by simp[h45]);rcases h3 with rfl| ⟨rfl,rfl⟩| ⟨rfl,rfl⟩<;>cases c<;>(
    simp only[M4,O9]at hb';subst hb';have F:=F6 hg q1 q2 q4 hw (@T4 Blk);refine sb [.tmp 4] Tryz.func211 ?_;intro Q hQ;refine wk F ?_;refine kq F (S1) ?_;refine kq F (S2) ?_;(try refine kq F (S3) ?_);refine kq F (S4 _ _ rfl rfl) ?_;refine ee hQ F ?_;rw[Int.zero_sub];exact fin _)
  ·rw[G2 h45]at*;have q4:(sg==45)=false:=(by simp[h45]);rcases h3 with rfl| ⟨rfl,rfl⟩| ⟨rfl,rfl⟩<;>cases c<;>(
    simp only[M4,O9]at hb';subst hb';have F:=F6 hg q1 q2 q4 hw (@T4 Blk);refine sb [.tmp 4] Tryz.func211 ?_;intro Q hQ;refine wk F ?_;refine kq F (S1) ?_;refine kq F (S2) ?_;(try refine kq F (S3) ?_);refine kq F (S4 _ _ rfl rfl) ?_;refine ee hQ F ?_;exact fin _)
 cases c with
 |true=>
  rcases e4:(Rdr.mk s3 b3).digits 2 with⟨m,s4,b4⟩;have hb:=bc e4;have S4:=aS G e4 (by omega) (by omega) (hgs s3 b3);rw[T4]at S4;exact body s4 b4 m e4 hb.1 hb.2 (fun s5 b5 h5 h6=>by rw[h5,h6];exact S4)
 |false=>
  rcases e4:(Rdr.mk s2 b2).digits 2 with⟨m,s4,b4⟩;have hb:=bc e4;have S4:=aS G e4 (by omega) (by omega) (hgs s2 b2);rw[T4]at S4;exact body s4 b4 m e4 hb.1 hb.2 (fun s5 b5 h5 h6=>by rw[h5,h6];exact S4)
theorem sa{s s':Bs}{b b':Bool}{z:Int}(e:(Rdr.mk s b).zone=(z,⟨s',b'⟩))(hs:s.length≤1073741824){H:Heap}{p:Nat}(hg:getRow H p 0=some (188,2,[.agg [.str s,.bool b]])):
  Sat (CT G) 201 [.hp p 0 0 0] H (fun r h'=>(r=.int .i64 z∧h'=H.set p (dR s' b'))):=by
 have hp:=ax hg;unfold Rdr.zone at e;by_cases h1:s=[90]
 ·subst h1;rw[G5 (.inl rfl)]at e;cases e;have z:(([90]:Bs)==[90])=true:=rfl;have F:=F2 hg z;refine sb [.tmp 2] Tryz.func201 ?_;intro Q hQ;refine wk F ?_;refine ee hQ F ?_;exact aT (fun _=>.int _ _)
 ·have q1:(s==[90])=false:=by simpa using h1
  by_cases h2:s=[122]
  ·subst h2;rw[G5 (.inr rfl)]at e;cases e;have z:(([122]:Bs)==[122])=true:=rfl;have F:=F3 hg q1 z;refine sb [.tmp 2] Tryz.func201 ?_;intro Q hQ;refine wk F ?_;refine ee hQ F ?_;exact aT (fun _=>.int _ _)
  ·have q2:(s==[122])=false:=(by simpa using h2);rw[G2 (by simp[h1,h2])]at e;have F:=F3 hg q1 q2;refine sb [.tmp 2] Tryz.func201 ?_;intro Q hQ;refine wk F ?_;refine kq F (mG G e hs hg) ?_;refine ee hQ F ?_;exact aT (fun _=>.int _ _)
theorem Rdr.off_bd{r:Rdr}{c:Bool}: -400000≤(r.off c).1∧(r.off c).1≤400000:=by
 have h10:(10:Int)^2=100:=rfl;have k:∀q:Rdr,0≤(q.digits 2).1∧(q.digits 2).1<100:=fun q=>by
  have:=bc (r:=q) (w:=2) (n:=(q.digits 2).1) (r':=(q.digits 2).2) rfl;rw[h10]at this;exact this
 unfold Rdr.off;simp only[];have a:=k (r.sign [43,45]).2;cases c
 ·have b:=k ((r.sign [43,45]).2.digits 2).2;simp only[I4,if_false];split<;>omega
 ·have b:=k ((((r.sign [43,45]).2.digits 2).2.sign [58]).2);simp only[if_true];split<;>omega
theorem Rdr.zone_bd{r:Rdr}: -400000≤(r.zone).1∧(r.zone).1≤400000:=by
 unfold Rdr.zone;split
 ·omega
 ·exact Rdr.off_bd
theorem wd{x:Dt}(h:okD x=true): -100000000000≤momD x∧momD x≤300000000000:=by
 obtain⟨k1,k2,k3,k4,k5,k6,k7,k8,k9,k10,k11,k12⟩:=bX h;have hb:=jN ⟨k1,k2⟩ ⟨k3,k4⟩ ⟨k5,k6⟩;unfold momD;omega
theorem kL{s:Bs}{b:Bool}(x:Dt)(z:Int)(hz: -400000≤z∧z≤400000){H:Heap}{p:Nat}(hg:getRow H p 0=some (188,2,[.agg [.str s,.bool b]])):
  Sat (CT G) 200 [.hp p 0 0 0,x.av,.int .i64 z] H (fun r h'=>r=.tup [.int .i64 (((Rdr.mk s b).told x z).getD 0),.int .i64 (if ((Rdr.mk s b).told x z).isSome then 0 else 40)]∧h'=H):=by
 have hp:=ax hg;have hgj:∀j,getRow (H++j) p 0=some (188,2,[.agg [.str s,.bool b]]):=fun j=>by rw[bt _ hp];exact hg
 have hM:=uz G x;have clo:∀(N:Nat) (a c:Int),Clo N (.tup [.int .i64 a,.int .i64 c]):=fun N a c=>.tup _ (fun x hx=>by simp only[J5,O3,or_false]at hx;rcases hx with rfl|rfl<;>exact .int _ _)
 unfold Rdr.told tellD;simp only[];cases b with
 |true=>
  obtain⟨y,m,d,hh,i,c⟩:=x;simp only[Dt.av_eq,M4,if_true]at*;have F:=hgj;refine sb [.tmp 6,.tmp 7] Tryz.func200 ?_;intro Q hQ;refine wk F ?_;refine kq F (hM _) ?_;refine ee hQ F ?_;exact I3 (clo _ _ _) ⟨rfl,rfl⟩
 |false=>
  by_cases h0:s=[]
  rotate_left
  ·have q0:(s==([]:Bs))=false:=(by simpa using h0);have e0:decide (s≠ [])=true:=(by simpa using h0);rw[e0];obtain⟨y,m,d,hh,i,c⟩:=x;simp only[Dt.av_eq,Bool.or_true,if_true]at*;have F:=F2 hgj q0;refine sb [.tmp 6,.tmp 7] Tryz.func200 ?_;intro Q hQ;refine wk F ?_;refine kq F (hM _) ?_;refine ee hQ F ?_;exact I3 (clo _ _ _) ⟨rfl,rfl⟩
  subst h0;have q0:(([]:Bs)==[])=true:=rfl;have e0:decide (([]:Bs)≠ [])=false:=rfl;rw[e0];cases hk:okD x with
  |false=>
   rw[hk]at hM;obtain⟨y,m,d,hh,i,c⟩:=x;simp only[Dt.av_eq]at*;have F:=F2 hgj q0;refine sb [.tmp 6,.tmp 7] Tryz.func200 ?_;intro Q hQ;refine wk F ?_;refine kq F (hM _) ?_;refine ee hQ F ?_;exact I3 (clo _ _ _) ⟨rfl,rfl⟩
  |true=>
   rw[hk]at hM;have hb:=wd hk;have hW:=bV G (momD x-z) (-62135596800) 253402300799;rw[show(decide (-62135596800≤momD x-z)&&decide (momD x-z≤253402300799))=inM (momD x-z)from rfl]at hW;generalize momD x=n at*;cases hi:inM (n-z)with
   |false=>
    rw[hi]at hW;obtain⟨y,m,d,hh,i,c⟩:=x;simp only[Dt.av_eq]at*;have F:=F2 hgj q0;refine sb [.tmp 6,.tmp 7] Tryz.func200 ?_;intro Q hQ;refine wk F ?_;refine kq F (hM _) ?_;refine kq F (hW _) ?_;refine ee hQ F ?_;exact I3 (clo _ _ _) ⟨rfl,rfl⟩
   |true=>
    rw[hi]at hW;obtain⟨y,m,d,hh,i,c⟩:=x;simp only[Dt.av_eq]at*;have F:=F2 hgj q0;refine sb [.tmp 6,.tmp 7] Tryz.func200 ?_;intro Q hQ;refine wk F ?_;refine kq F (hM _) ?_;refine kq F (hW _) ?_;refine ee hQ F ?_;exact I3 (clo _ _ _) ⟨rfl,rfl⟩
theorem se(y:Int)(hy:0≤y)(h:Heap):Sat (CT G) 139 [.int .i64 y] h (fun r h'=>r=.bool (leapF y)∧h'=h):=by
 unfold leapF;by_cases a:y%4=0
 ·have a1:(y%4==0)=true:=by simp[a]
  by_cases b:y%100=0
  ·have b1:(y%100 !=0)=false:=(by simp[b]);have F:=F4 a1 b1 @aY hy;refine sb [.tmp 2] Tryz.func139 ?_;intro Q hQ;refine wk F ?_;refine ee hQ F ?_;exact J9 (.bool _) ⟨by simp[a,b];rfl,rfl⟩
  ·have b1:(y%100 !=0)=true:=(by simp[b]);have F:=F4 a1 b1 @aY hy;refine sb [.tmp 2] Tryz.func139 ?_;intro Q hQ;refine wk F ?_;refine ee hQ F ?_;exact J9 (.bool _) ⟨by simp[a,b],rfl⟩
 ·have a1:(y%4==0)=false:=by simp[a]
  have c1:(y%400==0)=false:=by simp;omega
  have F:=F4 a1 c1 @aY hy;refine sb [.tmp 2] Tryz.func139 ?_;intro Q hQ;refine wk F ?_;refine ee hQ F ?_;exact J9 (.bool _) ⟨by simp[a],rfl⟩
theorem gQ(y m:Int)(h:Heap):Sat (CT G) 103 [.int .i64 y,.int .i64 m] h (fun r h'=>r=.int .i64 (daysF y m)∧h'=h):=by
 by_cases y1:y<1
 ·have e:daysF y m=0:=by unfold daysF;rw[G5 (by omega)]
  have q:=H0 y1;have F:=q;refine sb [.tmp 4] Tryz.func103 ?_;intro Q hQ;refine wk F ?_;refine ee hQ F ?_;exact J9 (.int _ _) ⟨by rw[e],rfl⟩
 have q1:=H3 y1;by_cases y2:y>9999
 ·have e:daysF y m=0:=by unfold daysF;rw[G5 (by omega)]
  have q:=H0 y2;have F:=F2 q1 q;refine sb [.tmp 4] Tryz.func103 ?_;intro Q hQ;refine wk F ?_;refine ee hQ F ?_;exact J9 (.int _ _) ⟨by rw[e],rfl⟩
 have q2:=H3 y2;by_cases m3:m=2
 ·subst m3;have hL:=se G y (by omega);have e:daysF y 2=if leapF y then 29 else 28:=by unfold daysF;rw[G2 (by omega),G5 rfl]
  cases hl:leapF y with
  |true=>
   rw[hl]at hL e;have F:=F2 q1 q2;refine sb [.tmp 4] Tryz.func103 ?_;intro Q hQ;refine wk F ?_;refine kq F (hL _) ?_;refine ee hQ F ?_;exact J9 (.int _ _) ⟨by rw[e];rfl,rfl⟩
  |false=>
   rw[hl]at hL e;have F:=F2 q1 q2;refine sb [.tmp 4] Tryz.func103 ?_;intro Q hQ;refine wk F ?_;refine kq F (hL _) ?_;refine ee hQ F ?_;exact J9 (.int _ _) ⟨by rw[e];rfl,rfl⟩
 have q3:(m==2)=false:=by simpa using m3
 by_cases mo:m<1∨12<m
 ·have e:daysF y m=0:=by unfold daysF;rw[G5 (by omega)]
  have k:∀c:Int,1≤c∧c≤12→(m==c)=false:=fun c hc=>by simp;omega
  have k1:=k 1 (by omega);have k3:=k 3 (by omega);have k4:=k 4 (by omega);have k5:=k 5 (by omega);have k6:=k 6 (by omega);have k7:=k 7 (by omega);have k8:=k 8 (by omega);have k9:=k 9 (by omega);have k10:=k 10 (by omega);have k11:=k 11 (by omega);have k12:=k 12 (by omega);have F:=F2 (F9 q1 q2 q3 k1 k3 k4 k5 k6 k7) (F5 k8 k9 k10 k11 k12);refine sb [.tmp 4] Tryz.func103 ?_;intro Q hQ;refine wk F ?_;refine ee hQ F ?_;exact J9 (.int _ _) ⟨by rw[e],rfl⟩
 ·have e:daysF y m=if m=4∨m=6∨m=9∨m=11 then 30 else 31:=by unfold daysF;rw[G2 (by omega),G2 m3]
  rw[e];have hm:m=1∨m=3∨m=4∨m=5∨m=6∨m=7∨m=8∨m=9∨m=10∨m=11∨m=12:=by omega
  clear e mo m3 q3;rcases hm with rfl|rfl|rfl|rfl|rfl|rfl|rfl|rfl|rfl|rfl|rfl;all_goals (
   have F:=F2 q1 q2;refine sb [.tmp 4] Tryz.func103 ?_;intro Q hQ;refine wk F ?_;refine ee hQ F ?_;exact J9 (.int _ _) ⟨rfl,rfl⟩)
theorem ep(y:Int)(hy:1≤y∧y≤10000)(h:Heap):Sat (CT G) 102 [.int .i64 y] h (fun r h'=>r=.int .i64 (aheadF y)∧h'=h):=by
 unfold aheadF;obtain⟨y1,y2⟩:=hy;have F:=F2 @cm @aY;refine sb [.tmp 2] Tryz.func102 ?_;intro Q hQ;refine wk F ?_;refine ee hQ F ?_;exact J9 (.int _ _) ⟨rfl,rfl⟩
theorem kM{y:Int}(hy:1≤y∧y≤10000):0≤aheadF y∧aheadF y≤4000000:=by unfold aheadF;omega
theorem ig(y:Int):∀k:Nat,0≤sumD y k∧sumD y k≤31*k
 |0=>by simp[sumD]
 |k+1=>by
  have:=ig y k;have:=di y (k+1:Nat);unfold sumD;omega
theorem mH(y d:Int)(k:Nat)(hy:1≤y∧y≤9999)(hk:k<12)(hd:1≤d∧d≤31)(h:Heap):Sat (CT G) 138 [.int .i64 y,.int .i64 ((k+1:Nat):Int),.int .i64 d] h (fun r h'=>r=.int .i64 (dayP y (k+1:Nat) d+719162)∧h'=h):=by
 rw[eu hy.1 hy.2 k hk];have hb:=kM (y:=y) (by omega);have hA:=ep G y (by omega);have hD:=fun m=>gQ G y m
 generalize aheadF y=a at*;refine sb [.tmp 6] Tryz.func138 ?_;intro Q hQ;refine wk trivial ?_;refine kq trivial (hA _) ?_;refine lm (fun nL tL hL=>∃(j:Nat) (v:Int),k-j=nL∧h=hL∧tL 7=.int .i64 v∧tL 8=.int .i64 ((j+1:Nat):Int)∧j≤k∧v=a+d-1+sumD y j) ((fun(j:Nat) (v:Int)=>(k-j:Nat)) (0) (a+d-1)) ?_ ?_
 ·refine H5 ⟨0,a+d-1,rfl,aw,?_,?_,by omega,by simp[sumD]⟩;all_goals try exact zZz trivial
 rintro _ s2 h' ⟨j,v,rfl,rfl,e7,e8,hj,hv⟩ K2 hK2;simp only[am,ar,Nat.reduceEqDiff, ↓reduceIte]at e7 e8;have F:=F2 e7 e8;have hs:=ig y j;by_cases c1:j<k
 ·have q:decide (j+1<k+1)=true:=by simp;omega
  have hdl:=di y (j+1:Nat);have e:sumD y (j+1)=sumD y j+daysF y (j+1:Nat):=rfl;have hD1:=hD ((j+1:Nat):Int);generalize daysF y (j+1:Nat)=dd at*;have F:=F2 F q;try refine sq F ?_
  refine wk F ?_;refine kq F (hD1 _) ?_;refine hK2 _ _ _ (H5 ⟨j+1,v+dd,rfl,aw,?_,?_,by omega,by rw[e,hv];omega⟩) (by omega);all_goals try exact zZz F
 ·have q:decide (j+1<k+1)=false:=by simp;omega
  have ej:j=k:=by omega
  subst ej;have F:=F2 F q;try refine sq F ?_
  refine wk F ?_;refine ee hQ F ?_;have ev:a+d-1+sumD y j-719162+719162=v:=by omega
  rw[ev];exact J9 (.int _ _) ⟨rfl,rfl⟩
theorem gR(h:Heap):Sat (CT G) 101 [] h (fun r h'=>r=.int .i64 62135596800∧h'=h):=by
 have hd:=mH G 1970 1 0 (by omega) (by omega) (by omega);have e:dayP 1970 ((0+1:Nat):Int) 1+719162=719162:=by decide
 rw[e]at hd;refine sb [.tmp 0] Tryz.func101 ?_;intro Q hQ;refine wk trivial ?_;refine kq trivial (hd _) ?_;refine ee hQ trivial ?_;exact J9 (.int _ _) ⟨rfl,rfl⟩
theorem sf(x:Dt)(hk:okD x=true)(h:Heap):Sat (CT G) 137 [x.av] h (fun r h'=>r=.int .i64 (momD x)∧h'=h):=by
 obtain⟨k1,k2,k3,k4,k5,k6,k7,k8,k9,k10,k11,k12⟩:=bX hk;obtain⟨k,hkm,hk12⟩:∃k:Nat,x.m=((k+1:Nat):Int)∧k<12:=⟨(x.m-1).toNat,by omega,by omega⟩;have hd:=mH G x.y x.d k (by omega) hk12 (by omega);have hb:=jN ⟨k1,k2⟩ ⟨k3,k4⟩ ⟨k5,k6⟩;rw[← hkm]at hd;have hz:=gR G;unfold momD;obtain⟨y,m,d,hh,i,s⟩:=x;simp only[Dt.av_eq]at*;generalize dayP y m d=dd at*;have eq9:86400*(dd+719162)+3600*hh+60*i+s-62135596800=86400*dd+3600*hh+60*i+s:=by omega
 refine sb [.tmp 2] Tryz.func137 ?_;intro Q hQ;refine wk trivial ?_;refine ab (hd _) ?_;try refine sq trivial ?_
 refine wk trivial ?_;refine ab (hz _) ?_;try refine sq trivial ?_
 refine wk trivial ?_;refine ee hQ trivial ?_;exact I3 (.int _ _) ⟨by rw[eq9],rfl⟩
theorem si(n:Int)(h:Heap):Sat (CT G) 65 [.int .i64 n] h (fun r h'=>r=.bool (inM n)∧h'=h):=by
 have hz:=gR G;have hF:∀h,Sat (CT G) 99 [] h (fun r h'=>r=.int .i64 (-62135596800)∧h'=h):=fun h=>by
  refine sb [.tmp 0] Tryz.func99 ?_;intro Q hQ;refine wk trivial ?_;refine kq trivial (hz _) ?_;refine ee hQ trivial ?_;exact J9 (.int _ _) ⟨rfl,rfl⟩
 have hM:=sf G ⟨9999,12,31,23,59,59⟩ (by decide);have eM:momD ⟨9999,12,31,23,59,59⟩=253402300799:=by decide
 rw[eM,Dt.av_eq]at hM;have hL:∀h,Sat (CT G) 100 [] h (fun r h'=>r=.int .i64 253402300799∧h'=h):=fun h=>by
  refine sb [.tmp 0] Tryz.func100 ?_;intro Q hQ;refine wk trivial ?_;refine kq trivial (hM _) ?_;refine ee hQ trivial ?_;exact J9 (.int _ _) ⟨rfl,rfl⟩
 unfold inM;by_cases k: -62135596800≤n
 ·have k2:decide (n≥ -62135596800)=true:=by simpa using k
  have F:=k2;refine sb [.tmp 2] Tryz.func65 ?_;intro Q hQ;refine wk F ?_;refine kq F (hF _) ?_;refine kq F (hL _) ?_;refine ee hQ F ?_;exact J9 (.bool _) ⟨by simp[k],rfl⟩
 ·have k2:decide (n≥ -62135596800)=false:=by simpa using k
  have F:=k2;refine sb [.tmp 2] Tryz.func65 ?_;intro Q hQ;refine wk F ?_;refine kq F (hF _) ?_;refine ee hQ F ?_;exact J9 (.bool _) ⟨by simp[k],rfl⟩
theorem bN(N:Nat)(a:Int)(c:Bool):Clo N (.tup [.int .i64 a,.bool c]):=.tup _ (fun x hx=>by simp only[J5,O3,or_false]at hx;rcases hx with rfl|rfl;exact .int _ _;exact .bool _)
theorem ss(s:Bs)(h:Heap):Sat (CT G) 203 [.str s] h (fun r h'=>r=.bool (decide (s∈weekL))∧h'=h):=by
 have hm:∀x:Bs,((s==x)=true∧s=x)∨((s==x)=false∧s≠x):=fun x=>by
  by_cases e:s=x
  ·exact .inl ⟨by simp[e],e⟩
  ·exact .inr ⟨by simp[e],e⟩
 by_cases hw:s∈weekL
 ·rw[H0 hw];have:s=[77,111,110,44]∨s=[84,117,101,44]∨s=[87,101,100,44]∨s=[84,104,117,44]∨s=[70,114,105,44]∨s=[83,97,116,44]∨s=[83,117,110,44]:=by simpa [weekL]using hw
  rcases this with e|e|e|e|e|e|e
  ·have F0:s=[77,111,110,44]:=e;have a0:(s==([77,111,110,44]:Bs))=true:=(by rw[F0];rfl);have a1:(s==([84,117,101,44]:Bs))=false:=(by rw[F0];rfl);have a2:(s==([87,101,100,44]:Bs))=false:=(by rw[F0];rfl);have a3:(s==([84,104,117,44]:Bs))=false:=(by rw[F0];rfl);have a4:(s==([70,114,105,44]:Bs))=false:=(by rw[F0];rfl);have a5:(s==([83,97,116,44]:Bs))=false:=(by rw[F0];rfl);have a6:(s==([83,117,110,44]:Bs))=false:=(by rw[F0];rfl);have F:=F7 a0 a1 a2 a3 a4 a5 a6;refine sb [.tmp 2] Tryz.func203 ?_;intro Q hQ;refine wk F ?_;refine ee hQ F ?_;exact J9 (.bool _) ⟨rfl,rfl⟩
  ·have F0:s=[84,117,101,44]:=e;have a0:(s==([77,111,110,44]:Bs))=false:=(by rw[F0];rfl);have a1:(s==([84,117,101,44]:Bs))=true:=(by rw[F0];rfl);have a2:(s==([87,101,100,44]:Bs))=false:=(by rw[F0];rfl);have a3:(s==([84,104,117,44]:Bs))=false:=(by rw[F0];rfl);have a4:(s==([70,114,105,44]:Bs))=false:=(by rw[F0];rfl);have a5:(s==([83,97,116,44]:Bs))=false:=(by rw[F0];rfl);have a6:(s==([83,117,110,44]:Bs))=false:=(by rw[F0];rfl);have F:=F7 a0 a1 a2 a3 a4 a5 a6;refine sb [.tmp 2] Tryz.func203 ?_;intro Q hQ;refine wk F ?_;refine ee hQ F ?_;exact J9 (.bool _) ⟨rfl,rfl⟩
  ·have F0:s=[87,101,100,44]:=e;have a0:(s==([77,111,110,44]:Bs))=false:=(by rw[F0];rfl);have a1:(s==([84,117,101,44]:Bs))=false:=(by rw[F0];rfl);have a2:(s==([87,101,100,44]:Bs))=true:=(by rw[F0];rfl);have a3:(s==([84,104,117,44]:Bs))=false:=(by rw[F0];rfl);have a4:(s==([70,114,105,44]:Bs))=false:=(by rw[F0];rfl);have a5:(s==([83,97,116,44]:Bs))=false:=(by rw[F0];rfl);have a6:(s==([83,117,110,44]:Bs))=false:=(by rw[F0];rfl);have F:=F7 a0 a1 a2 a3 a4 a5 a6;refine sb [.tmp 2] Tryz.func203 ?_;intro Q hQ;refine wk F ?_;refine ee hQ F ?_;exact J9 (.bool _) ⟨rfl,rfl⟩
  ·have F0:s=[84,104,117,44]:=e;have a0:(s==([77,111,110,44]:Bs))=false:=(by rw[F0];rfl);have a1:(s==([84,117,101,44]:Bs))=false:=(by rw[F0];rfl);have a2:(s==([87,101,100,44]:Bs))=false:=(by rw[F0];rfl);have a3:(s==([84,104,117,44]:Bs))=true:=(by rw[F0];rfl);have a4:(s==([70,114,105,44]:Bs))=false:=(by rw[F0];rfl);have a5:(s==([83,97,116,44]:Bs))=false:=(by rw[F0];rfl);have a6:(s==([83,117,110,44]:Bs))=false:=(by rw[F0];rfl);have F:=F7 a0 a1 a2 a3 a4 a5 a6;refine sb [.tmp 2] Tryz.func203 ?_;intro Q hQ;refine wk F ?_;refine ee hQ F ?_;exact J9 (.bool _) ⟨rfl,rfl⟩
  ·have F0:s=[70,114,105,44]:=e;have a0:(s==([77,111,110,44]:Bs))=false:=(by rw[F0];rfl);have a1:(s==([84,117,101,44]:Bs))=false:=(by rw[F0];rfl);have a2:(s==([87,101,100,44]:Bs))=false:=(by rw[F0];rfl);have a3:(s==([84,104,117,44]:Bs))=false:=(by rw[F0];rfl);have a4:(s==([70,114,105,44]:Bs))=true:=(by rw[F0];rfl);have a5:(s==([83,97,116,44]:Bs))=false:=(by rw[F0];rfl);have a6:(s==([83,117,110,44]:Bs))=false:=(by rw[F0];rfl);have F:=F7 a0 a1 a2 a3 a4 a5 a6;refine sb [.tmp 2] Tryz.func203 ?_;intro Q hQ;refine wk F ?_;refine ee hQ F ?_;exact J9 (.bool _) ⟨rfl,rfl⟩
  ·have F0:s=[83,97,116,44]:=e;have a0:(s==([77,111,110,44]:Bs))=false:=(by rw[F0];rfl);have a1:(s==([84,117,101,44]:Bs))=false:=(by rw[F0];rfl);have a2:(s==([87,101,100,44]:Bs))=false:=(by rw[F0];rfl);have a3:(s==([84,104,117,44]:Bs))=false:=(by rw[F0];rfl);have a4:(s==([70,114,105,44]:Bs))=false:=(by rw[F0];rfl);have a5:(s==([83,97,116,44]:Bs))=true:=(by rw[F0];rfl);have a6:(s==([83,117,110,44]:Bs))=false:=(by rw[F0];rfl);have F:=F7 a0 a1 a2 a3 a4 a5 a6;refine sb [.tmp 2] Tryz.func203 ?_;intro Q hQ;refine wk F ?_;refine ee hQ F ?_;exact J9 (.bool _) ⟨rfl,rfl⟩
  ·have F0:s=[83,117,110,44]:=e;have a0:(s==([77,111,110,44]:Bs))=false:=(by rw[F0];rfl);have a1:(s==([84,117,101,44]:Bs))=false:=(by rw[F0];rfl);have a2:(s==([87,101,100,44]:Bs))=false:=(by rw[F0];rfl);have a3:(s==([84,104,117,44]:Bs))=false:=(by rw[F0];rfl);have a4:(s==([70,114,105,44]:Bs))=false:=(by rw[F0];rfl);have a5:(s==([83,97,116,44]:Bs))=false:=(by rw[F0];rfl);have a6:(s==([83,117,110,44]:Bs))=true:=(by rw[F0];rfl);have F:=F7 a0 a1 a2 a3 a4 a5 a6;refine sb [.tmp 2] Tryz.func203 ?_;intro Q hQ;refine wk F ?_;refine ee hQ F ?_;exact J9 (.bool _) ⟨rfl,rfl⟩
 ·rw[H3 hw];have:s≠ [77,111,110,44]∧s≠ [84,117,101,44]∧s≠ [87,101,100,44]∧s≠ [84,104,117,44]∧s≠ [70,114,105,44]∧s≠ [83,97,116,44]∧s≠ [83,117,110,44]:=by simpa [weekL]using hw
  obtain⟨a1,a2,a3,a4,a5,a6,a7⟩:=this;have f:∀{x:Bs},s≠x→(s==x)=false:=fun {x} e=>by simpa using e
  have a1:=f a1;have a2:=f a2;have a3:=f a3;have a4:=f a4;have a5:=f a5;have a6:=f a6;have a7:=f a7;have F:=F7 a1 a2 a3 a4 a5 a6 a7;refine sb [.tmp 2] Tryz.func203 ?_;intro Q hQ;refine wk F ?_;refine ee hQ F ?_;exact J9 (.bool _) ⟨rfl,rfl⟩
theorem ql(s:Bs)(h:Heap):Sat (CT G) 209 [.str s] h (fun r h'=>r=.tup [.int .i64 ((namF s).getD 0),.bool (namF s).isSome]∧h'=h):=by
 by_cases hw:s∈zonL
 ·have:s=[71,77,84]∨s=[85,84]∨s=[85,84,67]∨s=[90]∨s=[69,83,84]∨s=[69,68,84]∨s=[67,83,84]∨s=[67,68,84]∨s=[77,83,84]∨s=[77,68,84]∨s=[80,83,84]∨s=[80,68,84]:=by simpa [zonL]using hw
  rcases this with e|e|e|e|e|e|e|e|e|e|e|e
  ·have F0:s=[71,77,84]:=e;have a0:(s==([71,77,84]:Bs))=true:=(by rw[F0];rfl);have a1:(s==([85,84]:Bs))=false:=(by rw[F0];rfl);have a2:(s==([85,84,67]:Bs))=false:=(by rw[F0];rfl);have a3:(s==([90]:Bs))=false:=(by rw[F0];rfl);have a4:(s==([69,68,84]:Bs))=false:=(by rw[F0];rfl);have a5:(s==([69,83,84]:Bs))=false:=(by rw[F0];rfl);have a6:(s==([67,68,84]:Bs))=false:=(by rw[F0];rfl);have a7:(s==([67,83,84]:Bs))=false:=(by rw[F0];rfl);have a8:(s==([77,68,84]:Bs))=false:=(by rw[F0];rfl);have a9:(s==([77,83,84]:Bs))=false:=(by rw[F0];rfl);have a10:(s==([80,68,84]:Bs))=false:=(by rw[F0];rfl);have a11:(s==([80,83,84]:Bs))=false:=(by rw[F0];rfl);have F:=F2 (F9 a0 a1 a2 a3 a4 a5 a6 a7 a8) (F3 a9 a10 a11);refine sb [.tmp 2,.tmp 3] Tryz.func209 ?_;intro Q hQ;refine wk F ?_;refine ee hQ F ?_;exact J9 (bN _ _ _) ⟨by rw[F0];rfl,rfl⟩
  ·have F0:s=[85,84]:=e;have a0:(s==([71,77,84]:Bs))=false:=(by rw[F0];rfl);have a1:(s==([85,84]:Bs))=true:=(by rw[F0];rfl);have a2:(s==([85,84,67]:Bs))=false:=(by rw[F0];rfl);have a3:(s==([90]:Bs))=false:=(by rw[F0];rfl);have a4:(s==([69,68,84]:Bs))=false:=(by rw[F0];rfl);have a5:(s==([69,83,84]:Bs))=false:=(by rw[F0];rfl);have a6:(s==([67,68,84]:Bs))=false:=(by rw[F0];rfl);have a7:(s==([67,83,84]:Bs))=false:=(by rw[F0];rfl);have a8:(s==([77,68,84]:Bs))=false:=(by rw[F0];rfl);have a9:(s==([77,83,84]:Bs))=false:=(by rw[F0];rfl);have a10:(s==([80,68,84]:Bs))=false:=(by rw[F0];rfl);have a11:(s==([80,83,84]:Bs))=false:=(by rw[F0];rfl);have F:=F2 (F9 a0 a1 a2 a3 a4 a5 a6 a7 a8) (F3 a9 a10 a11);refine sb [.tmp 2,.tmp 3] Tryz.func209 ?_;intro Q hQ;refine wk F ?_;refine ee hQ F ?_;exact J9 (bN _ _ _) ⟨by rw[F0];rfl,rfl⟩
  ·have F0:s=[85,84,67]:=e;have a0:(s==([71,77,84]:Bs))=false:=(by rw[F0];rfl);have a1:(s==([85,84]:Bs))=false:=(by rw[F0];rfl);have a2:(s==([85,84,67]:Bs))=true:=(by rw[F0];rfl);have a3:(s==([90]:Bs))=false:=(by rw[F0];rfl);have a4:(s==([69,68,84]:Bs))=false:=(by rw[F0];rfl);have a5:(s==([69,83,84]:Bs))=false:=(by rw[F0];rfl);have a6:(s==([67,68,84]:Bs))=false:=(by rw[F0];rfl);have a7:(s==([67,83,84]:Bs))=false:=(by rw[F0];rfl);have a8:(s==([77,68,84]:Bs))=false:=(by rw[F0];rfl);have a9:(s==([77,83,84]:Bs))=false:=(by rw[F0];rfl);have a10:(s==([80,68,84]:Bs))=false:=(by rw[F0];rfl);have a11:(s==([80,83,84]:Bs))=false:=(by rw[F0];rfl);have F:=F2 (F9 a0 a1 a2 a3 a4 a5 a6 a7 a8) (F3 a9 a10 a11);refine sb [.tmp 2,.tmp 3] Tryz.func209 ?_;intro Q hQ;refine wk F ?_;refine ee hQ F ?_;exact J9 (bN _ _ _) ⟨by rw[F0];rfl,rfl⟩
  ·have F0:s=[90]:=e;have a0:(s==([71,77,84]:Bs))=false:=(by rw[F0];rfl);have a1:(s==([85,84]:Bs))=false:=(by rw[F0];rfl);have a2:(s==([85,84,67]:Bs))=false:=(by rw[F0];rfl);have a3:(s==([90]:Bs))=true:=(by rw[F0];rfl);have a4:(s==([69,68,84]:Bs))=false:=(by rw[F0];rfl);have a5:(s==([69,83,84]:Bs))=false:=(by rw[F0];rfl);have a6:(s==([67,68,84]:Bs))=false:=(by rw[F0];rfl);have a7:(s==([67,83,84]:Bs))=false:=(by rw[F0];rfl);have a8:(s==([77,68,84]:Bs))=false:=(by rw[F0];rfl);have a9:(s==([77,83,84]:Bs))=false:=(by rw[F0];rfl);have a10:(s==([80,68,84]:Bs))=false:=(by rw[F0];rfl);have a11:(s==([80,83,84]:Bs))=false:=(by rw[F0];rfl);have F:=F2 (F9 a0 a1 a2 a3 a4 a5 a6 a7 a8) (F3 a9 a10 a11);refine sb [.tmp 2,.tmp 3] Tryz.func209 ?_;intro Q hQ;refine wk F ?_;refine ee hQ F ?_;exact J9 (bN _ _ _) ⟨by rw[F0];rfl,rfl⟩
  ·have F0:s=[69,83,84]:=e;have a0:(s==([71,77,84]:Bs))=false:=(by rw[F0];rfl);have a1:(s==([85,84]:Bs))=false:=(by rw[F0];rfl);have a2:(s==([85,84,67]:Bs))=false:=(by rw[F0];rfl);have a3:(s==([90]:Bs))=false:=(by rw[F0];rfl);have a4:(s==([69,68,84]:Bs))=false:=(by rw[F0];rfl);have a5:(s==([69,83,84]:Bs))=true:=(by rw[F0];rfl);have a6:(s==([67,68,84]:Bs))=false:=(by rw[F0];rfl);have a7:(s==([67,83,84]:Bs))=false:=(by rw[F0];rfl);have a8:(s==([77,68,84]:Bs))=false:=(by rw[F0];rfl);have a9:(s==([77,83,84]:Bs))=false:=(by rw[F0];rfl);have a10:(s==([80,68,84]:Bs))=false:=(by rw[F0];rfl);have a11:(s==([80,83,84]:Bs))=false:=(by rw[F0];rfl);have F:=F2 (F9 a0 a1 a2 a3 a4 a5 a6 a7 a8) (F3 a9 a10 a11);refine sb [.tmp 2,.tmp 3] Tryz.func209 ?_;intro Q hQ;refine wk F ?_;refine ee hQ F ?_;exact J9 (bN _ _ _) ⟨by rw[F0];rfl,rfl⟩
  ·have F0:s=[69,68,84]:=e;have a0:(s==([71,77,84]:Bs))=false:=(by rw[F0];rfl);have a1:(s==([85,84]:Bs))=false:=(by rw[F0];rfl);have a2:(s==([85,84,67]:Bs))=false:=(by rw[F0];rfl);have a3:(s==([90]:Bs))=false:=(by rw[F0];rfl);have a4:(s==([69,68,84]:Bs))=true:=(by rw[F0];rfl);have a5:(s==([69,83,84]:Bs))=false:=(by rw[F0];rfl);have a6:(s==([67,68,84]:Bs))=false:=(by rw[F0];rfl);have a7:(s==([67,83,84]:Bs))=false:=(by rw[F0];rfl);have a8:(s==([77,68,84]:Bs))=false:=(by rw[F0];rfl);have a9:(s==([77,83,84]:Bs))=false:=(by rw[F0];rfl);have a10:(s==([80,68,84]:Bs))=false:=(by rw[F0];rfl);have a11:(s==([80,83,84]:Bs))=false:=(by rw[F0];rfl);have F:=F2 (F9 a0 a1 a2 a3 a4 a5 a6 a7 a8) (F3 a9 a10 a11);refine sb [.tmp 2,.tmp 3] Tryz.func209 ?_;intro Q hQ;refine wk F ?_;refine ee hQ F ?_;exact J9 (bN _ _ _) ⟨by rw[F0];rfl,rfl⟩
  ·have F0:s=[67,83,84]:=e;have a0:(s==([71,77,84]:Bs))=false:=(by rw[F0];rfl);have a1:(s==([85,84]:Bs))=false:=(by rw[F0];rfl);have a2:(s==([85,84,67]:Bs))=false:=(by rw[F0];rfl);have a3:(s==([90]:Bs))=false:=(by rw[F0];rfl);have a4:(s==([69,68,84]:Bs))=false:=(by rw[F0];rfl);have a5:(s==([69,83,84]:Bs))=false:=(by rw[F0];rfl);have a6:(s==([67,68,84]:Bs))=false:=(by rw[F0];rfl);have a7:(s==([67,83,84]:Bs))=true:=(by rw[F0];rfl);have a8:(s==([77,68,84]:Bs))=false:=(by rw[F0];rfl);have a9:(s==([77,83,84]:Bs))=false:=(by rw[F0];rfl);have a10:(s==([80,68,84]:Bs))=false:=(by rw[F0];rfl);have a11:(s==([80,83,84]:Bs))=false:=(by rw[F0];rfl);have F:=F2 (F9 a0 a1 a2 a3 a4 a5 a6 a7 a8) (F3 a9 a10 a11);refine sb [.tmp 2,.tmp 3] Tryz.func209 ?_;intro Q hQ;refine wk F ?_;refine ee hQ F ?_;exact J9 (bN _ _ _) ⟨by rw[F0];rfl,rfl⟩
  ·have F0:s=[67,68,84]:=e;have a0:(s==([71,77,84]:Bs))=false:=(by rw[F0];rfl);have a1:(s==([85,84]:Bs))=false:=(by rw[F0];rfl);have a2:(s==([85,84,67]:Bs))=false:=(by rw[F0];rfl);have a3:(s==([90]:Bs))=false:=(by rw[F0];rfl);have a4:(s==([69,68,84]:Bs))=false:=(by rw[F0];rfl);have a5:(s==([69,83,84]:Bs))=false:=(by rw[F0];rfl);have a6:(s==([67,68,84]:Bs))=true:=(by rw[F0];rfl);have a7:(s==([67,83,84]:Bs))=false:=(by rw[F0];rfl);have a8:(s==([77,68,84]:Bs))=false:=(by rw[F0];rfl);have a9:(s==([77,83,84]:Bs))=false:=(by rw[F0];rfl);have a10:(s==([80,68,84]:Bs))=false:=(by rw[F0];rfl);have a11:(s==([80,83,84]:Bs))=false:=(by rw[F0];rfl);have F:=F2 (F9 a0 a1 a2 a3 a4 a5 a6 a7 a8) (F3 a9 a10 a11);refine sb [.tmp 2,.tmp 3] Tryz.func209 ?_;intro Q hQ;refine wk F ?_;refine ee hQ F ?_;exact J9 (bN _ _ _) ⟨by rw[F0];rfl,rfl⟩
  ·have F0:s=[77,83,84]:=e;have a0:(s==([71,77,84]:Bs))=false:=(by rw[F0];rfl);have a1:(s==([85,84]:Bs))=false:=(by rw[F0];rfl);have a2:(s==([85,84,67]:Bs))=false:=(by rw[F0];rfl);have a3:(s==([90]:Bs))=false:=(by rw[F0];rfl);have a4:(s==([69,68,84]:Bs))=false:=(by rw[F0];rfl);have a5:(s==([69,83,84]:Bs))=false:=(by rw[F0];rfl);have a6:(s==([67,68,84]:Bs))=false:=(by rw[F0];rfl);have a7:(s==([67,83,84]:Bs))=false:=(by rw[F0];rfl);have a8:(s==([77,68,84]:Bs))=false:=(by rw[F0];rfl);have a9:(s==([77,83,84]:Bs))=true:=(by rw[F0];rfl);have a10:(s==([80,68,84]:Bs))=false:=(by rw[F0];rfl);have a11:(s==([80,83,84]:Bs))=false:=(by rw[F0];rfl);have F:=F2 (F9 a0 a1 a2 a3 a4 a5 a6 a7 a8) (F3 a9 a10 a11);refine sb [.tmp 2,.tmp 3] Tryz.func209 ?_;intro Q hQ;refine wk F ?_;refine ee hQ F ?_;exact J9 (bN _ _ _) ⟨by rw[F0];rfl,rfl⟩
  ·have F0:s=[77,68,84]:=e;have a0:(s==([71,77,84]:Bs))=false:=(by rw[F0];rfl);have a1:(s==([85,84]:Bs))=false:=(by rw[F0];rfl);have a2:(s==([85,84,67]:Bs))=false:=(by rw[F0];rfl);have a3:(s==([90]:Bs))=false:=(by rw[F0];rfl);have a4:(s==([69,68,84]:Bs))=false:=(by rw[F0];rfl);have a5:(s==([69,83,84]:Bs))=false:=(by rw[F0];rfl);have a6:(s==([67,68,84]:Bs))=false:=(by rw[F0];rfl);have a7:(s==([67,83,84]:Bs))=false:=(by rw[F0];rfl);have a8:(s==([77,68,84]:Bs))=true:=(by rw[F0];rfl);have a9:(s==([77,83,84]:Bs))=false:=(by rw[F0];rfl);have a10:(s==([80,68,84]:Bs))=false:=(by rw[F0];rfl);have a11:(s==([80,83,84]:Bs))=false:=(by rw[F0];rfl);have F:=F2 (F9 a0 a1 a2 a3 a4 a5 a6 a7 a8) (F3 a9 a10 a11);refine sb [.tmp 2,.tmp 3] Tryz.func209 ?_;intro Q hQ;refine wk F ?_;refine ee hQ F ?_;exact J9 (bN _ _ _) ⟨by rw[F0];rfl,rfl⟩
  ·have F0:s=[80,83,84]:=e;have a0:(s==([71,77,84]:Bs))=false:=(by rw[F0];rfl);have a1:(s==([85,84]:Bs))=false:=(by rw[F0];rfl);have a2:(s==([85,84,67]:Bs))=false:=(by rw[F0];rfl);have a3:(s==([90]:Bs))=false:=(by rw[F0];rfl);have a4:(s==([69,68,84]:Bs))=false:=(by rw[F0];rfl);have a5:(s==([69,83,84]:Bs))=false:=(by rw[F0];rfl);have a6:(s==([67,68,84]:Bs))=false:=(by rw[F0];rfl);have a7:(s==([67,83,84]:Bs))=false:=(by rw[F0];rfl);have a8:(s==([77,68,84]:Bs))=false:=(by rw[F0];rfl);have a9:(s==([77,83,84]:Bs))=false:=(by rw[F0];rfl);have a10:(s==([80,68,84]:Bs))=false:=(by rw[F0];rfl);have a11:(s==([80,83,84]:Bs))=true:=(by rw[F0];rfl);have F:=F2 (F9 a0 a1 a2 a3 a4 a5 a6 a7 a8) (F3 a9 a10 a11);refine sb [.tmp 2,.tmp 3] Tryz.func209 ?_;intro Q hQ;refine wk F ?_;refine ee hQ F ?_;exact J9 (bN _ _ _) ⟨by rw[F0];rfl,rfl⟩
  ·have F0:s=[80,68,84]:=e;have a0:(s==([71,77,84]:Bs))=false:=(by rw[F0];rfl);have a1:(s==([85,84]:Bs))=false:=(by rw[F0];rfl);have a2:(s==([85,84,67]:Bs))=false:=(by rw[F0];rfl);have a3:(s==([90]:Bs))=false:=(by rw[F0];rfl);have a4:(s==([69,68,84]:Bs))=false:=(by rw[F0];rfl);have a5:(s==([69,83,84]:Bs))=false:=(by rw[F0];rfl);have a6:(s==([67,68,84]:Bs))=false:=(by rw[F0];rfl);have a7:(s==([67,83,84]:Bs))=false:=(by rw[F0];rfl);have a8:(s==([77,68,84]:Bs))=false:=(by rw[F0];rfl);have a9:(s==([77,83,84]:Bs))=false:=(by rw[F0];rfl);have a10:(s==([80,68,84]:Bs))=true:=(by rw[F0];rfl);have a11:(s==([80,83,84]:Bs))=false:=(by rw[F0];rfl);have F:=F2 (F9 a0 a1 a2 a3 a4 a5 a6 a7 a8) (F3 a9 a10 a11);refine sb [.tmp 2,.tmp 3] Tryz.func209 ?_;intro Q hQ;refine wk F ?_;refine ee hQ F ?_;exact J9 (bN _ _ _) ⟨by rw[F0];rfl,rfl⟩
 ·have e:namF s=none:=by
   unfold namF;have:zonL.findIdx? (fun x=>decide (x=s))=none:=by
    rw[T7];intro x hx;have:x≠s:=fun k=>hw (k▸hx)
    simpa using this
   rw[this]
  rw[e];have:s≠ [71,77,84]∧s≠ [85,84]∧s≠ [85,84,67]∧s≠ [90]∧s≠ [69,83,84]∧s≠ [69,68,84]∧s≠ [67,83,84]∧s≠ [67,68,84]∧s≠ [77,83,84]∧s≠ [77,68,84]∧s≠ [80,83,84]∧s≠ [80,68,84]:=by simpa [zonL]using hw
  obtain⟨a1,a2,a3,a4,a5,a6,a7,a8,a9,b1,b2,b3⟩:=this;have f:∀{x:Bs},s≠x→(s==x)=false:=fun {x} e=>by simpa using e
  have a1:=f a1;have a2:=f a2;have a3:=f a3;have a4:=f a4;have a5:=f a5;have a6:=f a6;have a7:=f a7;have a8:=f a8;have a9:=f a9;have b1:=f b1;have b2:=f b2;have b3:=f b3;have F:=F2 (F9 a1 a2 a3 a4 a5 a6 a7 a8 a9) (F3 b1 b2 b3);refine sb [.tmp 2,.tmp 3] Tryz.func209 ?_;intro Q hQ;refine wk F ?_;refine ee hQ F ?_;exact J9 (bN _ _ _) ⟨rfl,rfl⟩
theorem uA{s s':Bs}{b b':Bool}{n:Int}(e:(Rdr.mk s b).all=(n,⟨s',b'⟩))(hs:s.length≤9){H:Heap}{p:Nat}(hg:getRow H p 0=some (188,2,[.agg [.str s,.bool b]])):
  Sat (CT G) 205 [.hp p 0 0 0] H (fun r h'=>r=.int .i64 n∧h'=H.set p (dR s' b')):=by
 have hp:=ax hg;have S:=aS G (w:=s.length) e hs (by omega) hg;have F:=hg;refine sb [.tmp 2] Tryz.func205 ?_;intro Q hQ;refine wk F ?_;refine kq F (S) ?_;refine ee hQ F ?_;exact aT (fun _=>.int _ _)
theorem uB{s s':Bs}{b b':Bool}{n:Int}(e:(Rdr.mk s b).off false=(n,⟨s',b'⟩))(hs:s.length≤1073741824){H:Heap}{p:Nat}(hg:getRow H p 0=some (188,2,[.agg [.str s,.bool b]])):
  Sat (CT G) 210 [.hp p 0 0 0] H (fun r h'=>r=.int .i64 n∧h'=H.set p (dR s' b')):=by
 have hp:=ax hg;have S:=mG G e hs hg;have F:=hg;refine sb [.tmp 2] Tryz.func210 ?_;intro Q hQ;refine wk F ?_;refine kq F (S) ?_;refine ee hQ F ?_;exact aT (fun _=>.int _ _)
theorem su{s s':Bs}{b b':Bool}{n:Int}(e:(Rdr.mk s b).year=(n,⟨s',b'⟩))(hs:s.length≤1073741824){H:Heap}{p:Nat}(hg:getRow H p 0=some (188,2,[.agg [.str s,.bool b]])):
  Sat (CT G) 207 [.hp p 0 0 0] H (fun r h'=>r=.int .i64 n∧h'=H.set p (dR s' b')):=by
 have hp:=ax hg;unfold Rdr.year at e;by_cases h2:s.length=2
 ·have q:((s.length:Int) !=2)=false:=by rw[h2];rfl
  rcases e1:(Rdr.mk s b).digits 2 with⟨m,s1,b1⟩;have e:(if 50≤m then 1900+m else 2000+m,Rdr.mk s1 b1)=(n,⟨s',b'⟩):=by
   rw[← e];simp only[h2,if_true,e1]
  have hb:=bc e1;have h10:(10:Int)^2=100:=rfl;rw[h10]at hb;have S:=aS G e1 (by omega) hs hg;by_cases c:50≤m
  ·rw[G5 c]at e;cases e;have d:decide (m≥50)=true:=H0 c;have F:=F3 hg q d;refine sb [.tmp 2] Tryz.func207 ?_;intro Q hQ;refine wk F ?_;refine kq F (S) ?_;refine ee hQ F ?_;exact aT (fun _=>.int _ _)
  ·rw[G2 c]at e;cases e;have d:decide (m≥50)=false:=H3 c;have F:=F3 hg q d;refine sb [.tmp 2] Tryz.func207 ?_;intro Q hQ;refine wk F ?_;refine kq F (S) ?_;refine ee hQ F ?_;exact aT (fun _=>.int _ _)
 ·have q:((s.length:Int) !=2)=true:=by simp only[bne_iff_ne,ne_eq];omega
  have e:(Rdr.mk s b).digits 4=(n,⟨s',b'⟩):=by
   rw[← e];exact(G2 h2).symm
  have S:=aS G e (by omega) hs hg;have F:=F2 hg q;refine sb [.tmp 2] Tryz.func207 ?_;intro Q hQ;refine wk F ?_;refine kq F (S) ?_;refine ee hQ F ?_;exact aT (fun _=>.int _ _)
theorem qo{s s':Bs}{b b':Bool}{n:Int}(e:(Rdr.mk s b).clock=(n,⟨s',b'⟩))(hs:s.length≤1073741824){H:Heap}{p:Nat}(hg:getRow H p 0=some (188,2,[.agg [.str s,.bool b]])):
  Sat (CT G) 208 [.hp p 0 0 0] H (fun r h'=>r=.int .i64 n∧h'=H.set p (dR s' b')):=by
 have hp:=ax hg;have hgs:∀s b,getRow (H.set p (dR s b)) p 0=some (188,2,[.agg [.str s,.bool b]]):=fun s b=>by rw[bE _ _ _ _ _ hp];rfl
 rcases e1:(Rdr.mk s b).digits 2 with⟨hh,s1,b1⟩;rcases e2:(Rdr.mk s1 b1).sign [58]with⟨x2,s2,b2⟩;rcases e3:(Rdr.mk s2 b2).digits 2 with⟨m,s3,b3⟩;have l1:s1.length≤s.length:=by
  have:=Rdr.digits_le (r:=⟨s,b⟩) (w:=2);rw[e1]at this;exact this
 have l2:s2.length≤s1.length:=by
  have:=Rdr.sign_le (r:=⟨s1,b1⟩) (l:=[58]);rw[e2]at this;exact this
 have l3:s3.length≤s2.length:=by
  have:=Rdr.digits_le (r:=⟨s2,b2⟩) (w:=2);rw[e3]at this;exact this
 have hb1:=bc e1;have hb3:=bc e3;have h10:(10:Int)^2=100:=rfl;rw[h10]at hb1 hb3;have S1:=aS G e1 (by omega) hs hg;have S2:=dL G e2 (hgs s1 b1);have S3:=aS G e3 (by omega) (by omega) (hgs s2 b2);rw[T4]at S2 S3;have fin:∀x:Int,Fin H (H.set p (dR s' b')) (fun r h'=>r=.int .i64 x∧h'=H.set p (dR s' b')) (.int .i64 x):=fun x=>aT (fun _=>.int _ _)
 by_cases h3:s3=[]
 ·have q0:(s3==([]:Bs))=true:=by simp[h3]
  have ec:((3600*hh+60*m+0:Int),Rdr.mk s3 (b3||(decide (hh>23)||(decide (m>59)||false))))=(n,⟨s',b'⟩):=by
   rw[← e];unfold Rdr.clock;simp only[e1,e2,e3];simp[h3]
  cases ec;generalize q1:decide (hh>23)=d1 at*;generalize q2:decide (m>59)=d2 at*;have q3:decide ((0:Int)>59)=false:=rfl;have dt:∀i:Decidable True, @decide True i=true:=fun i=>by simp
  have df:∀i:Decidable False, @decide False i=false:=fun i=>by simp
  have hw:=hgs s' b3;cases b3<;>cases d1<;>cases d2<;>(
   have F:=F8 hg q0 q1 q2 dt df hw (@T4 Blk);refine sb [.tmp 2] Tryz.func208 ?_;intro Q hQ;refine wk F ?_;refine kq F (S1) ?_;refine kq F (S2) ?_;refine kq F (S3) ?_;refine ee hQ F ?_;exact fin _)
 ·have q0:(s3==([]:Bs))=false:=by simpa using h3
  rcases e4:(Rdr.mk s3 b3).sign [58]with⟨x4,s4,b4⟩;rcases e5:(Rdr.mk s4 b4).digits 2 with⟨c,s5,b5⟩;have l4:s4.length≤s3.length:=by
   have:=Rdr.sign_le (r:=⟨s3,b3⟩) (l:=[58]);rw[e4]at this;exact this
  have hb5:=bc e5;rw[h10]at hb5;have S4:=dL G e4 (hgs s3 b3);have S5:=aS G e5 (by omega) (by omega) (hgs s4 b4);rw[T4]at S4 S5;have ec:((3600*hh+60*m+c:Int),Rdr.mk s5 (b5||(decide (hh>23)||(decide (m>59)||decide (c>59)))))=(n,⟨s',b'⟩):=by
   rw[← e];unfold Rdr.clock;simp only[e1,e2,e3,G2 h3,e4,e5]
  cases ec;generalize q1:decide (hh>23)=d1 at*;generalize q2:decide (m>59)=d2 at*;generalize q3:decide (c>59)=d3 at*;have hw0:=hgs s3 b3;have hw:=hgs s' b5;cases b5<;>cases d1<;>cases d2<;>cases d3<;>(
   have F:=F8 hg q0 q1 q2 q3 hw0 hw (@T4 Blk);refine sb [.tmp 2] Tryz.func208 ?_;intro Q hQ;refine wk F ?_;refine kq F (S1) ?_;refine kq F (S2) ?_;refine kq F (S3) ?_;refine kq F (S4) ?_;refine kq F (S5) ?_;refine ee hQ F ?_;exact fin _)
theorem sv(g:FuncId){s w s':Bs}{b b':Bool}{n:Int}{H:Heap}{p:Nat}(hg:getRow H p 0=some (188,2,[.agg [.str s,.bool b]]))
  (hF:Sat (CT G) g [.hp H.length 0 0 0] (H++[dR w false]) (fun r h'=>r=.int .i64 n∧h'=H++[dR s' b'])):
  Sat (CT G) 204 [.hp p 0 0 0,.str w,.fn (.func g) [] []] H (fun r h'=>r=.int .i64 n∧h'=H.set p (dR s (b||(b'||decide (s'≠ []))))):=by
 have hp:=ax hg;have q:(s'==([]:Bs))=decide (s'=[]):=by rw[N8];simp
 have hx:decide (s'≠ [])= !decide (s'=[]):=by simp
 rw[hx];generalize decide (s'=[])=d at*;have hgo:∀l:Heap,getRow (H++l) p 0=some (188,2,[.agg [.str s,.bool b]]):=fun l=>by rw[bt _ hp];exact hg
 cases b<;>cases b'<;>cases d<;>(
  have F:=F4 hgo q hp @ak;refine sb [.tmp 6] Tryz.func204 ?_;intro Q hQ;refine wk F ?_;refine kq F (hF) ?_;refine ee hQ F ?_;exact jk (fun _=>.int _ _))
theorem pc(b:UInt8):∀(s:Bs),∀x∈splF b s,x.length≤s.length
 | [],x,hx=>by rw[splF,L8]at hx;rw[hx];exact H6 _
 |c::s,x,hx=>by
  have ih:=pc b s;rw[splF]at hx;split at hx
  ·rcases J5.1 hx with rfl|hx
   ·simp
   ·have:=ih x hx;simp;omega
  ·split at hx
   ·rw[L8]at hx;rw[hx];simp
   ·rename_i w l e;rw[e]at ih;rcases J5.1 hx with rfl|hx
    ·have:=ih w (by simp);simp;omega
    ·have:=ih x (by simp[hx]);simp;omega
theorem ii{w:List Bs}{k:Nat}(h:k<w.length):w[k]? =some (w.getD k []):=by
 rw[O2,G3 h];rfl
theorem qp{P:Program}{h:Heap}{T e n i:Nat}{es:List AVal}{k:IntKind}(he:elmT P T=some e)(hn:szOf P e=some n)(hi:i≤es.length):aslice P h T (.sl n es) (some (.int k (i:Int))) none none=some (.sl n (es.drop i)):=by
 simp only[aslice,he,hn,optInt,Option.isNone_none,if_true];rw[G5 ⟨by omega,by omega,by omega⟩];simp
theorem mI(b:UInt8):∀s:Bs,(splF b s).length≤s.length+1
 | []=>by simp[splF]
 |c::s=>by
  have ih:=mI b s;rw[splF];split
  ·simp;omega
  ·split
   ·simp
   ·rename_i w l e;rw[e]at ih;simp at ih ⊢;omega
theorem sw{l:List Bs}{s:Bs}(hn:∀x∈l,x≠s):ixS l s= -1:=by
 have:l.findIdx? (fun x=>decide (x=s))=none:=by
  rw[T7];intro x hx;simpa using hn x hx
 unfold ixS;rw[this]
theorem iB(b:UInt8):∀s:Bs,Lib.splitK [b] 0 (Lib.count s [b]) s=splF b s
 | []=>by
  have:Lib.count ([]:Bs) [b]=0:=Lib.count_miss (by simp[Lib.index]);rw[this];rfl
 |c::s=>by
  have ih:=iB b s;unfold splF;by_cases h:c=b
  ·subst h;have hix:Lib.index (c::s) [c]=((0:Nat):Int):=(by rw[Lib.index];simp[List.isPrefixOf]);have hne:¬(Lib.index (c::s) [c]== -1)=true:=(by rw[hix];decide);rw[G5 rfl,Lib.count_cons_eq,Nat.add_comm,Lib.splitK,G2 hne,hix, ← ih];rfl
  ·rw[G2 h,Lib.count_cons_ne c b s h, ← ih];have hp:([b]:Bs).isPrefixOf (c::s)=false:=(by simp[List.isPrefixOf,Ne.symm h]);have hix:Lib.index (c::s) [b]=if Lib.index s [b]== -1 then-1 else Lib.index s [b]+1:=by rw[Lib.index,hp];simp
   by_cases hm:Lib.index s [b]= -1
   ·rw[Lib.count_miss hm];rfl
   ·have hge:=Lib.index_ge s [b];obtain⟨j,hj⟩:∃j:Nat,Lib.index s [b]=j:=⟨(Lib.index s [b]).toNat,by omega⟩;have hn1:¬(Lib.index s [b]== -1)=true:=fun e=>hm (beq_iff_eq.1 e)
    have hn2:¬(Lib.index (c::s) [b]== -1)=true:=(by rw[hix,G2 hn1,hj];simp;omega);rw[Lib.count_hit (by simp) hj,Nat.add_comm,Lib.splitK,G2 hn2,Lib.splitK,G2 hn1,hix,G2 hn1,hj];have e1:((j:Int)+1).toNat=j+1:=(by omega);rw[e1];simp[Nat.add_right_comm]
theorem Sat.of_callsD{C:Ctx}{h:Heap}{f:FuncId}{fn:Func}{args:List AVal}{vs:List Value}{R:AVal→Heap→Prop}(hf:C.P.funcs[f]? =some fn)(hb:fn.body.isNone=false)(hname:(fn.name== "runtime.NumGoroutine")=false)
  (ha:plainL args=some vs)(hc:∀B S μ w,Fits C B S μ h w→Calls C.P f vs.toArray w fun e w'=>∃v,e=.returned v∧OpPost C B S μ w R v w'):Sat C f args h R:=by
 unfold Sat;intro B S μ w us fit rl;obtain rfl:=fJ ha rl;have e:(callFunc f us.toArray).run C.P w=.ok (.enter f us.toArray) w:=by
  have hne:fn.name≠ "runtime.NumGoroutine" :=by simpa using hname
  obtain⟨c,hbc⟩:∃c,fn.body=some c:=by cases hq:fn.body with|none=>simp[hq]at hb|some c=>exact⟨c,rfl⟩
  simp[callFunc,hf,hne,hbc]
 rw[e];exact hc B S μ w fit
theorem sx{C:Ctx}{B:Nat}{S:Addr→Prop}{μ:Map}{h:Heap}{w:World}(f:Fits C B S μ h w)(l:List Bs)(h0:l≠ [])(hm:l.length≤maxLen)(T:TypeId):
  ∃S',Step B S μ w S' μ (w.alloc (.cells ((l.map fun s=>Value.string ⟨s.toArray⟩).toArray) T))∧Fits C B S' μ h (w.alloc (.cells ((l.map fun s=>Value.string ⟨s.toArray⟩).toArray) T))∧
   Rep (w.alloc (.cells ((l.map fun s=>Value.string ⟨s.toArray⟩).toArray) T)) S' μ (.sl 1 (l.map .str)) (.slice (some ⟨w.heap.size,0,none⟩) l.length l.length):=by
 have hB:Below w.heap.size w (w.alloc (.cells ((l.map fun s=>Value.string ⟨s.toArray⟩).toArray) T)):=Below.alloc (R7 _ _) (H6 _) _;have hk:∀k,k<w.heap.size→(w.alloc (.cells ((l.map fun s=>Value.string ⟨s.toArray⟩).toArray) T)).heap[k]? =w.heap[k]? :=fun k hk=>hB.block k hk
 have hsz:(w.alloc (.cells ((l.map fun s=>Value.string ⟨s.toArray⟩).toArray) T)).heap.size=w.heap.size+1:=Array.size_push ..;have st:Step B S μ w (fun a=>S a∨a.block=w.heap.size) μ (w.alloc (.cells ((l.map fun s=>Value.string ⟨s.toArray⟩).toArray) T)):=
  ⟨fun _ ha=>.inl ha,fun a ha=>World.cell?_of_block (hk _ (f.lie a ha)),hB.mono f.base,MapLe.refl _,fun a ha=>ha.elim .inl fun e=>.inr (e▸f.base)⟩
 refine⟨_,st,⟨fun g cs hg=>(f.glob g cs hg).mono st,f.len,f.sep,fun p m b h1 e1=>?_,by rw[hsz];have:=f.base;omega,fun a ha=>?_,fun p m k h1 h2=>(f.blk p m k h1 h2).mono st fun q hq=>hk q (f.own p m q h1 hq).2.1⟩,?_⟩
 ·obtain⟨a1,a2,a3⟩:=f.own p m b h1 e1;refine⟨a1,by rw[hsz];omega,fun a ha=>ha.elim (a3 a) fun e=>by rw[e];omega⟩
 ·rw[hsz];rcases ha with ha|ha
  ·have:=f.lie a ha;omega
  ·rw[ha];omega
 ·have hl:(l.map AVal.str).length=l.length:=I7 ..;have hg:∀(i:Nat) (e:AVal),(l.map AVal.str)[i]? =some e→∃s,l[i]? =some s∧e=.str s:=fun i e he=>by
   rw[K9]at he;cases hs:l[i]? with
   |none=>rw[hs]at he;cases he
   |some s=>rw[hs]at he;exact⟨s,rfl,by cases he;rfl⟩
  have:=Rep.sl (w:=w.alloc (.cells ((l.map fun s=>Value.string ⟨s.toArray⟩).toArray) T)) (S:=fun a=>S a∨a.block=w.heap.size) (μ:=μ) 1 (l.map .str) w.heap.size 0 l.length (fun i _=>.string ⟨(l.getD i []).toArray⟩) (by simpa using h0) (by rw[hl];exact H6 _) hm
   (fun i e he=>by obtain⟨s,_,rfl⟩:=hg i e he;rfl)
   (fun i e j c he hj=>by
    obtain⟨s,hs,rfl⟩:=hg i e he;have hj0:j=0:=by
     have:=(F1.1 hj).1;simp[AVal.cells]at this;exact this
    subst hj0;cases hj;refine⟨.inr rfl,?_,rfl⟩;rw[World.cell?_alloc_mark];simp[hs])
   (fun i e j c he hj=>by
    obtain⟨s,hs,rfl⟩:=hg i e he;have hj0:j=0:=by
     have:=(F1.1 hj).1;simp[AVal.cells]at this;exact this
    subst hj0;cases hj;simp only[O2,hs];exact .str _)
  rw[hl]at this;exact this
theorem sy(hG:GOk G)(s:Bs)(b:UInt8)(hs:s.length≤8388608)(h:Heap):Sat (CT G) 202 [.str s,.str [b]] h (fun r h'=>r=.sl 1 ((splF b s).map .str)∧h'=h):=by
 refine Sat.of_callsD (fn:=Tryz.f202) Tryz.func202 (by kernel_rfl) (by kernel_rfl) rfl fun B S μ w f=>?_
 obtain⟨m,hm⟩:=hG.cell f;refine(Tryz.strings_Split ⟨s.toArray⟩ ⟨#[b]⟩ m w (by rw[i6];omega) hm (H6 1)).mono fun e w' ⟨h1,h2⟩=>?_
 have hd:(Lib.splitB ⟨#[b]⟩ 0 (Lib.countB ⟨s.toArray⟩ ⟨#[b]⟩) ⟨s.toArray⟩).map (·.data.toList)=splF b s:=by
  rw[Lib.splitB_data];exact iB b s
 have hl:=Lib.splitB_all ⟨#[b]⟩ (H6 1) 0 _ (⟨s.toArray⟩:ByteArray) rfl;have hv:(Lib.splitB ⟨#[b]⟩ 0 (Lib.countB ⟨s.toArray⟩ ⟨#[b]⟩) ⟨s.toArray⟩).map Value.string=(splF b s).map fun s=>Value.string ⟨s.toArray⟩:=by
  rw[← hd,List.map_map];exact R8 fun x _=>by simp
 have hc:Lib.countB (⟨s.toArray⟩:ByteArray) ⟨#[b]⟩+1=(splF b s).length:=by rw[← hl, ← hd,I7]
 rw[hv]at h2;rw[hc]at h1;have hsl:=mI b s;obtain⟨S',st,f',r⟩:=sx f (splF b s) (oJ b s) (by unfold maxLen;omega) 9;rw[← h2]at st f' r;exact⟨_,h1,_,h,S',μ,⟨rfl,rfl⟩,st,f',r⟩
theorem sA(hG:GOk G)(s p:Bs)(hs:s.length≤1073741824)(h:Heap):
  Sat (CT G) 165 [.str s,.str p] h (fun r h'=>r=.int .i64 (Lib.index s p)∧h'=h):=by
 refine Sat.of_calls (fn:=Tryz.f165) Tryz.func165 (by kernel_rfl) (by kernel_rfl) rfl rfl fun B S μ w f=>?_
 obtain⟨m,hm⟩:=hG.cell f;refine(Tryz.strings_Index ⟨s.toArray⟩ ⟨p.toArray⟩ m w (by rw[i6];omega) hm).mono fun e w' ⟨h1,h2⟩=>⟨h1,bT h2⟩
def monB:Bs:=monL.flatten
theorem uC(w:Bs)(h3:w.length=3):(∃i:Nat,i<12∧Lib.index monB w=3*(i:Nat)∧ixS monL w=i)∨(ixS monL w= -1∧(Lib.index monB w<0∨(0≤Lib.index monB w∧Lib.index monB w<36∧Lib.index monB w%3≠0))):=by
 by_cases hm:w∈monL
 ·left;have:w=[74,97,110]∨w=[70,101,98]∨w=[77,97,114]∨w=[65,112,114]∨w=[77,97,121]∨w=[74,117,110]∨w=[74,117,108]∨w=[65,117,103]∨w=[83,101,112]∨w=[79,99,116]∨w=[78,111,118]∨w=[68,101,99]:=by simpa [monL]using hm
  rcases this with rfl|rfl|rfl|rfl|rfl|rfl|rfl|rfl|rfl|rfl|rfl|rfl
  ·exact⟨0,by decide,by decide,by decide⟩
  ·exact⟨1,by decide,by decide,by decide⟩
  ·exact⟨2,by decide,by decide,by decide⟩
  ·exact⟨3,by decide,by decide,by decide⟩
  ·exact⟨4,by decide,by decide,by decide⟩
  ·exact⟨5,by decide,by decide,by decide⟩
  ·exact⟨6,by decide,by decide,by decide⟩
  ·exact⟨7,by decide,by decide,by decide⟩
  ·exact⟨8,by decide,by decide,by decide⟩
  ·exact⟨9,by decide,by decide,by decide⟩
  ·exact⟨10,by decide,by decide,by decide⟩
  ·exact⟨11,by decide,by decide,by decide⟩
 ·right;refine⟨sw (fun x hx e=>hm (e▸hx)),?_⟩;rcases Lib.index_spec monB w with⟨h,_⟩| ⟨i,h,hi,ho,_⟩
  ·left;rw[h];decide
  ·right;rw[h];have hr:=Lib.occAt_room ho;have hb:monB.length=36:=(by decide);have hi:i+3≤36:=by
    rcases hr with hr|hr
    ·omega
    ·rw[hr]at h3;cases h3
   refine⟨by omega,by omega,fun hmod=>hm ?_⟩;obtain⟨k,rfl⟩:∃k,i=3*k:=⟨i/3,by omega⟩;have hk:k<12:=(by omega);rw[Lib.occAt_iff_take monB w (3*k) (by omega),h3]at ho;have ho:(monB.drop (3*k)).take 3=w:=(by simpa using ho);rw[← ho];have:k=0∨k=1∨k=2∨k=3∨k=4∨k=5∨k=6∨k=7∨k=8∨k=9∨k=10∨k=11:=by omega
   rcases this with rfl|rfl|rfl|rfl|rfl|rfl|rfl|rfl|rfl|rfl|rfl|rfl<;>decide
theorem wg{w:Bs}(h:w.length≠3):ixS monL w= -1:=sw fun x hx e=>h (by
 have:∀x∈monL,x.length=3:=by decide
 rw[← e];exact this x hx)
theorem qq(hG:GOk G)(w:Bs)(h:Heap):Sat (CT G) 206 [.str w] h (fun r h'=>r=.int .i64 (ixS monL w+1)∧h'=h):=by
 have hI:∀h,Sat (CT G) 165 [.str [74,97,110,70,101,98,77,97,114,65,112,114,77,97,121,74,117,110,74,117,108,65,117,103,83,101,112,79,99,116,78,111,118,68,101,99],.str w] h (fun r h'=>r=.int .i64 (Lib.index monB w)∧h'=h):=sA G hG monB w (by decide);by_cases h3:w.length=3
 rotate_left
 ·have q:((w.length:Int) !=3)=true:=by simp only[bne_iff_ne,ne_eq];omega
  have e:=wg h3;have F:=q;refine sb [.tmp 2] Tryz.func206 ?_;intro Q hQ;refine wk F ?_;refine kq F (hI _) ?_;refine ee hQ F ?_;exact J9 (.int _ _) ⟨by rw[e];rfl,rfl⟩
 have q:((w.length:Int) !=3)=false:=by rw[h3];rfl
 rcases uC w h3 with⟨i,h12,ei,e⟩| ⟨e,h0| ⟨h0,h36,h0m⟩⟩
 ·have q1:decide ((3*(i:Nat):Int)<0)=false:=H3 (by omega);have t1:((3*(i:Nat):Int)).tmod 3=0:=by rw[L6 (by omega)];omega
  have t2:((3*(i:Nat):Int)).tdiv 3=i:=by rw[M0 (by omega)];omega
  rw[ei]at hI;have F:=F4 q q1 t1 t2;refine sb [.tmp 2] Tryz.func206 ?_;intro Q hQ;refine wk F ?_;refine kq F (hI _) ?_;refine ee hQ F ?_;exact J9 (.int _ _) ⟨by rw[e];rfl,rfl⟩
 ·have q1:decide (Lib.index monB w<0)=true:=H0 h0;have F:=F2 q q1;refine sb [.tmp 2] Tryz.func206 ?_;intro Q hQ;refine wk F ?_;refine kq F (hI _) ?_;refine ee hQ F ?_;exact J9 (.int _ _) ⟨by rw[e];rfl,rfl⟩
 ·have q1:decide (Lib.index monB w<0)=false:=H3 (by omega);have t1:(Lib.index monB w).tmod 3=Lib.index monB w%3:=L6 h0;have q2:((Lib.index monB w%3) !=0)=true:=by simpa using h0m
  have F:=F4 q q1 t1 q2;refine sb [.tmp 2] Tryz.func206 ?_;intro Q hQ;refine wk F ?_;refine kq F (hI _) ?_;refine ee hQ F ?_;exact J9 (.int _ _) ⟨by rw[e];rfl,rfl⟩
theorem Rdr.point_le{r:Rdr}:r.point.s.length≤r.s.length:=by
 unfold Rdr.point;split
 ·rename_i h;rw[h];simp;omega
 ·exact H6 _
theorem jm{C:Ctx}{ops:Array Oper}{x:Operand}{i:Nat}{ty:TypeId}{pos:String}{aft:Array Edge}{dst:Option Tmp}{t:Env}{h:Heap}{vs:List AVal}{v:AVal}{K:AVal→Heap→Prop}(hx:aev C.G t x=.tup vs)(hv:vs[i]? =some v)(hk:K v h):
  wpOperV C ops ⟨dst,.extract x i,ty,pos,aft,none⟩ t h K:=by
 show(match aev C.G t x with| .tup vs=>need vs[i]? (K · h)|_=>False);rw[hx];show need vs[i]? (K · h);rw[hv];exact hk
theorem bY(N:Nat)(a c:Int):Clo N (.tup [.int .i64 a,.int .i64 c]):=.tup _ (fun x hx=>by simp only[J5,O3,or_false]at hx;rcases hx with rfl|rfl<;>exact .int _ _)
theorem pf(s:Bs)(hs:s.length≤1073741824)(h:Heap):Sat (CT G) 183 [.str s] h (fun r h'=>r=.tup [.int .i64 ((webP s).getD 0),.int .i64 (if (webP s).isSome then 0 else 40)]∧h'=h):=by
 rcases e1:(Rdr.mk s false).digits 4 with⟨y,s1,b1⟩;rcases e2:(Rdr.mk s1 b1).sign [45]with⟨x2,s2,b2⟩;rcases e3:(Rdr.mk s2 b2).digits 2 with⟨m,s3,b3⟩;rcases e4:(Rdr.mk s3 b3).sign [45]with⟨x4,s4,b4⟩;rcases e5:(Rdr.mk s4 b4).digits 2 with⟨d,s5,b5⟩;rcases e6:(Rdr.mk s5 b5).sign [84,116]with⟨x6,s6,b6⟩;rcases e7:(Rdr.mk s6 b6).digits 2 with⟨hh,s7,b7⟩;rcases e8:(Rdr.mk s7 b7).sign [58]with⟨x8,s8,b8⟩;rcases e9:(Rdr.mk s8 b8).digits 2 with⟨i,s9,b9⟩;rcases e10:(Rdr.mk s9 b9).sign [58]with⟨x10,s10,b10⟩;rcases e11:(Rdr.mk s10 b10).digits 2 with⟨c,s11,b11⟩;rcases e12:(Rdr.mk s11 b11).point with⟨s12,b12⟩;rcases e13:(Rdr.mk s12 b12).zone with⟨z,s13,b13⟩;have ew:webP s=(Rdr.mk s13 b13).told ⟨y,m,d,hh,i,c⟩ z:=by
  unfold webP;simp only[e1,e2,e3,e4,e5,e6,e7,e8,e9,e10,e11,e12,e13]
 have dl:∀{s s':Bs} {b b':Bool} {w:Nat} {n:Int},(Rdr.mk s b).digits w=(n,⟨s',b'⟩)→s'.length≤s.length:=fun {s s' b b' w n} e=>by
  have:=Rdr.digits_le (r:=⟨s,b⟩) (w:=w);rw[e]at this;exact this
 have sl:∀{s s':Bs} {b b':Bool} {l:Bs} {n:Int},(Rdr.mk s b).sign l=(n,⟨s',b'⟩)→s'.length≤s.length:=fun {s s' b b' l n} e=>by
  have:=Rdr.sign_le (r:=⟨s,b⟩) (l:=l);rw[e]at this;exact this
 have l1:=dl e1;have l2:=sl e2;have l3:=dl e3;have l4:=sl e4;have l5:=dl e5;have l6:=sl e6;have l7:=dl e7;have l8:=sl e8;have l9:=dl e9;have l10:=sl e10;have l11:=dl e11;have l12:s12.length≤s11.length:=by
  have:=Rdr.point_le (r:=⟨s11,b11⟩);rw[e12]at this;exact this
 have hz: -400000≤z∧z≤400000:=by
  have:=Rdr.zone_bd (r:=⟨s12,b12⟩);rw[e13]at this;exact this
 have hg:∀(s:Bs) (b:Bool) (j:Heap),getRow (h++dR s b::j) h.length 0=some (188,2,[.agg [.str s,.bool b]]):=fun s b j=>by rw[c9 _ rfl];rfl
 have hT:=fun(b:Bool) (s:Bs) (j:Heap)=>kL G (s:=s) (b:=b) ⟨y,m,d,hh,i,c⟩ z hz (hg s b j)
 have hD:∀{s s':Bs} {b b':Bool} {w:Nat} {n:Int},(Rdr.mk s b).digits w=(n,⟨s',b'⟩)→w≤9→s.length≤1073741824→∀j:Heap,Sat (CT G) 197 [.hp h.length 0 0 0,.int .i64 w] (h++dR s b::j) (fun r h'=>r=.int .i64 n∧h'=h++dR s' b'::j):=fun {s s' b b' w n} e hw hl j=>by
  have:=aS G e hw hl (hg s b j);rw[eC _ rfl,T5]at this;exact this
 have hS:∀{s s':Bs} {b b':Bool} {l:Bs} {n:Int},(Rdr.mk s b).sign l=(n,⟨s',b'⟩)→∀j:Heap,Sat (CT G) 198 [.hp h.length 0 0 0,.str l] (h++dR s b::j) (fun r h'=>r=.int .u8 n∧h'=h++dR s' b'::j):=fun {s s' b b' l n} e j=>by
  have:=dL G e (hg s b j);rw[eC _ rfl,T5]at this;exact this
 have hP:=fun(j:Heap)=>qi G e12 (by omega) (hg s11 b11 j)
 have hZ:=fun(j:Heap)=>sa G e13 (by omega) (hg s12 b12 j)
 simp only[eC _ rfl,T5]at hP hZ;rw[ew];simp only[Dt.av_eq]at hT
 skip
 refine sb [.tmp 2,.tmp 3] Tryz.func183 ?_;intro Q hQ;refine wn trivial ?_;refine kn trivial (hD e1 (by omega) (by omega) _) ?_;refine kn trivial (hS e2 _) ?_;refine kn trivial (hD e3 (by omega) (by omega) _) ?_;refine kn trivial (hS e4 _) ?_;refine kn trivial (hD e5 (by omega) (by omega) _) ?_;refine kn trivial (hS e6 _) ?_;refine kn trivial (hD e7 (by omega) (by omega) _) ?_;refine kn trivial (hS e8 _) ?_;refine kn trivial (hD e9 (by omega) (by omega) _) ?_;refine kn trivial (hS e10 _) ?_;refine kn trivial (hD e11 (by omega) (by omega) _) ?_;refine kn trivial (hP _) ?_;refine eP 7 [3,4,5,6] [true,true,true,false,false,false,false] (.one 3 [false,true] (.one 4 [] (.two 5 [] (.one 6 [] .fin) 6 [] (.one 5 [] .fin)))) (by decide+kernel) (by kernel_rfl) (by decide+kernel) ?_;simp only[fw,fy,cN];try refine sq trivial ?_
 repeat' ((first|refine bB ?_|refine bC ?_|refine bD ?_ ?_)<;>try refine sq trivial ?_)
 all_goals try refine wn trivial ?_
 repeat' (first
  | (refine(hZ _).mono ?_;rintro r h' ⟨rfl,rfl⟩;try refine sq trivial ?_)
  | (refine(hT _ _ _).mono ?_;rintro r h' ⟨rfl,rfl⟩;try refine sq trivial ?_)
  | (refine jm (by simp only[go_sem, ↓reduceIte,seval];rfl) (by rfl) ?_;try refine sq trivial ?_)
  | (refine bB ?_;try refine sq trivial ?_)| (refine bC ?_;try refine sq trivial ?_)| (refine bD ?_ ?_<;>try refine sq trivial ?_))
 all_goals try refine wk trivial ?_
 all_goals (
  refine ee hQ trivial ?_;exact I3 (bY _ _ _) ⟨rfl,rfl⟩)
end Go.Av
