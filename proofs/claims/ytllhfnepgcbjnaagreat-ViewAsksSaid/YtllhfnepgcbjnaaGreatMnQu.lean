/- Parts. -/
import Derived.Test.YtllhfnepgcbjnaaGreatMnQc
set_option linter.unusedSimpArgs false
set_option linter.unusedVariables false
set_option linter.unusedSectionVars false
set_option linter.unnecessarySimpa false
set_option maxRecDepth 100000
set_option maxHeartbeats 16000000
namespace Go.Av
open Go Go.Proofs Go.RowKit
section
attribute [local irreducible] WP WPl WPix Sat
set_option pp.deepTerms true
set_option pp.maxSteps 200000
theorem oG{h:Heap}{p v len n m i:Nat}{b:Bool}{rows:List AVal}(hg:getRow h p v=some (m,n,rows))(hl:rows.length=len)(hi:i≤len):elemsOf h n (.hs p v i (len-i) b)=some (rows.drop i):=by
 simp only[elemsOf,hg,true_and];rw[M1 (by omega),M4 (by rw[P5];omega)]
theorem ja{h:Heap}{p v len n m:Nat}{b:Bool}{rows:List AVal}(hg:getRow h p v=some (m,n,rows))(hl:rows.length=len):elemsOf h n (.hs p v 0 len b)=some rows:=by
 simp only[elemsOf,hg,true_and];rw[M1 (by omega),Y3,M4 (by omega)]
theorem rD{P:Program}{h:Heap}{T e p v n m:Nat}{rows:List AVal}{k:IntKind}(he:elmT P T=some e)(hg:getRow h p v=some (m,n,rows))(hn:szOf P e=some n):
  aslice P h T (.hs p v 0 0 true) (some (.int k ((0:Nat):Int))) none none=some (.hs p v 0 0 true):=by
 simp[aslice,he,hg,hn,optInt]
variable (G:Nat→Option (List AVal))
end
section
attribute [local irreducible] WP WPl WPix Sat
variable (G:Nat→Option (List AVal))
end
section
variable {s:PS}
theorem rE{α:Type}{z:α}{l:ML Int α}{c:Nat}(w:WFM l c):(valsM z l).Perm (l.map (·.2.1)):=by
 have h1:(l.map (·.2.1))=(l.map (·.1)).map fun k=>(lkM l k).getD z:=by
  rw[V0];exact V9 fun e he=>by simp only[Function.comp];rw[bI w.keys (b:=e.2.2) he];rfl
 rw[h1];exact(Z3 _ _).map _
theorem gI{α:Type}{z:α}{l:ML Int α}{key:α→Int}(hid:∀k a,lkM l k=some a→key a=k)(id:Int):fnd key (valsM z l) id=lkM l id:=dV key hid id
theorem PS.Inv.fndFo(h:s.Inv)(id:Int):fnd (·.id) s.tell.fo id=lkM s.fo id:=gI (fun k a hk=>(h.i1 k a hk).1) id
theorem PS.Inv.fndFe(h:s.Inv)(id:Int):fnd (·.id) s.tell.fe id=lkM s.fe id:=gI (fun k a hk=>(h.i2 k a hk).1) id
theorem PS.Inv.fndIt(h:s.Inv)(id:Int):fnd (·.id) s.tell.it id=lkM s.it id:=gI (fun k a hk=>(h.i3 k a hk).1) id
theorem PS.Inv.fndSe(h:s.Inv)(id:Int):fnd (·.id) s.tell.se id=lkM s.se id:=gI (fun k a hk=>(h.i4 k a hk).1) id
theorem PS.Inv.hasT(h:s.Inv){id:Int}(hi:id=0∨(lkM s.fo id).isSome=true):s.tell.has id:=by
 rcases hi with hi|hi
 ·exact .inl hi
 ·obtain⟨f,hf⟩:=N3.1 hi;exact .inr ⟨f,by rw[h.fndFo,hf]⟩
theorem PS.Inv.up(h:s.Inv):s.tell.Up where
 fo:=fun f hf=>by
  obtain⟨k,hk⟩:=aN hf;exact h.hasT (h.u1 k f hk)
 fe:=fun f hf=>by
  obtain⟨k,hk⟩:=aN hf;exact h.hasT (h.u2 k f hk)
 it:=fun t ht=>by
  obtain⟨k,hk⟩:=aN ht;obtain⟨f,hf⟩:=N3.1 (h.u3 k t hk);exact⟨f,by rw[h.fndFe,hf]⟩
 l1:=by have:=aJ (z:=Fo.z) s.fo;have:=h.l1;show(valsM Fo.z s.fo).length≤_;omega
 l2:=by have:=aJ (z:=Fe.z) s.fe;have:=h.l2;show(valsM Fe.z s.fe).length≤_;omega
 l3:=by have:=aJ (z:=It.z) s.it;have:=h.l3;show(valsM It.z s.it).length≤_;omega
 tg:=fun t ht=>by
  obtain⟨k,hk⟩:=aN ht;exact(h.tg k t hk).2
theorem PS.Inv.inT(h:s.Inv)(id:Int):s.tell.inn id=((lkM s.fo id).map (·.inn)).getD 0:=by unfold St.inn;rw[h.fndFo]
theorem xX(h:s.Inv){u:Int}(hu:u≠0):∀{k m:Nat} {p:Int} {l:List Int},k≤m→chS s.fo k p=some l→(s.tell.upW u m p=u↔u∈l):=by
 intro k;induction k with
 |zero=>
  intro m p l _ hc;rw[chS]at hc;split at hc
  ·rename_i hp;cases hc;subst hp;have:s.tell.upW u m 0=0:=by
    cases m with
    |zero=>rfl
    |succ m=>rw[St.upW,M1 (.inr rfl)]
   rw[this];exact⟨fun e=>(hu e.symm).elim,fun e=>by cases e⟩
  ·cases hc
 |succ k ih=>
  intro m p l hm hc;obtain⟨m,rfl⟩:∃m',m=m'+1:=⟨m-1,by omega⟩;rw[chS]at hc;split at hc
  ·rename_i hp;cases hc;subst hp;rw[St.upW,M1 (.inr rfl)];exact⟨fun e=>(hu e.symm).elim,fun e=>by cases e⟩
  ·rename_i hp;simp only[N1]at hc;obtain⟨r,hr,rfl⟩:=hc;rw[St.upW];by_cases hpu:p=u
   ·rw[M1 (.inl hpu)];exact⟨fun _=>by rw[hpu];exact W7 ..,fun _=>hpu⟩
   ·rw[L5 (by rintro(q|q);exact hpu q;exact hp q),h.inT,ih (by omega) hr,N2];exact⟨.inr,fun q=>q.elim (fun e=>(hpu e.symm).elim) id⟩
theorem nD{t:It}(h:s.Inv)(ht:t∈s.its):∃k,lkM s.it k=some t:=by
 obtain⟨e,he,rfl⟩:=N0.1 ht;exact⟨e.1,bI h.w3.keys (b:=e.2.2) he⟩
theorem jx(h:s.Inv):s.tell.it.Perm s.its:=rE h.w3
end
section
attribute [local irreducible] WP WPl WPix Sat
variable (G:Nat→Option (List AVal))
theorem wx:∀(q:Qy) (h:Heap),q.sz≤1048576→Sat (CT G) 32 [q.av] h (fun r h'=>r=.int .i64 q.nod∧h'=h):=by
 refine Qy.ind fun op num s ks ih=>?_
 intro h hz;have hkl:=Qy.szL_len ks;have hkm:∀k∈ks,k.sz≤Qy.szL ks:=fun k hk=>Qy.szL_mem hk
 have hnt:=Qy.nodL_in ks 1;rw[Qy.sz]at hz;have hml:(ks.map Qy.av).length=ks.length:=L8 ..;rw[Qy.av_eq,Qy.nod];have F:=hml;refine sb [.tmp 2] Tryz.func32 ?_;intro Q hQ;refine wk F ?_;refine lm (fun nL tL hL=>∃(k:Nat) (m:Int),ks.length-k=nL∧h++[.row 25 4 0 [.agg [.int .i64 op,.int .i64 num,.str s,.sl 4 (ks.map Qy.av)]]]=hL∧tL 4=.int .i64 k∧tL 3=.int .i64 m∧k≤ks.length∧1≤m∧Qy.nodL ks 1=Qy.nodL (ks.drop k) m) ((fun(k:Nat) (m:Int)=>(ks.length-k:Nat)) (0) (1)) ?_ ?_
 ·refine M0 ⟨0,1,rfl,aw,?_,?_,by omega,by omega,rfl⟩;all_goals try exact zZz F
 rintro _ s2 h' ⟨k,m,rfl,rfl,e4,e3,hk,h1,hm⟩ K2 hK2;simp only[ai,ak,Nat.reduceEqDiff, ↓reduceIte]at e4 e3;have F:=F3 F e4 e3;refine wk F ?_;refine cq F (fun c1=>?_) (fun c1=>?_)<;>(try exact c1.elim)<;>(refine wk F ?_)
 ·have c2:k<ks.length:=by omega
  obtain⟨y,hy,hym⟩:=ac c2;have hc:=ih y hym (h++[.row 25 4 0 [.agg [.int .i64 op,.int .i64 num,.str s,.sl 4 (ks.map Qy.av)]]]) (by have:=hkm y hym;omega);rw[aF hy,Qy.nodL]at hm;have hb:=Qy.nodL_in (ks.drop (k+1)) (m+y.nod);have hy1:=Qy.nod_in y;generalize y.nod=e at hm hc hb hy1;obtain⟨yo,yn,ys,yl⟩:=y;rw[Qy.av_eq]at hc;have wm:IntKind.i64.wrap (m+e)=m+e:=by rw[U2];omega
  have F:=F4 F hy c2 wm;try refine sq F ?_
  refine wk F ?_;refine kq F (hc) ?_;refine hK2 _ _ _ (M0 ⟨k+1,m+e,rfl,aw,?_,?_,by omega,by omega,hm⟩) (by omega);all_goals try exact zZz F
 ·rw[aG c1,Qy.nodL]at hm;refine ee hQ F ?_;exact L6 (.int _ _) ⟨by rw[hm],rfl⟩
theorem wy:∀(q:Qy) (a:Int) (h:Heap),1≤a→a≤65→q.mx≤9223372036854775807→Sat (CT G) 96 [q.av,.int .i64 a] h (fun r h'=>r=.int .i64 (q.dep a)∧h'=h):=by
 refine Qy.ind fun op num s ks ih=>?_
 intro a h h1 h2 hz;obtain⟨hsl,hkl,hkm⟩:=Qy.mx_mk hz;have hml:(ks.map Qy.av).length=ks.length:=L8 ..;rw[Qy.av_eq,Qy.dep];by_cases ha:a>64
 ·rw[M1 ha];have g0:decide (a>64)=true:=by simp[ha]
  have F:=g0;refine sb [.tmp 4] Tryz.func96 ?_;intro Q hQ;refine wk F ?_;refine ee hQ F ?_;exact L6 (.int _ _) ⟨rfl,rfl⟩
 ·rw[L5 ha];have g0:decide (a>64)=false:=by simp[ha]
  have wa:IntKind.i64.wrap (a+1)=a+1:=by rw[U2];omega
  have F:=F3 g0 wa hml;refine sb [.tmp 4] Tryz.func96 ?_;intro Q hQ;refine wk F ?_;refine lm (fun nL tL hL=>∃(k:Nat) (m:Int) (j:Heap),ks.length-k=nL∧h++(.row 25 4 0 [.agg [.int .i64 op,.int .i64 num,.str s,.sl 4 (ks.map Qy.av)]]::j)=hL∧tL 15=.int .i64 k∧tL 5=.int .i64 m∧k≤ks.length∧Qy.depL ks a a=Qy.depL (ks.drop k) a m) ((fun(k:Nat) (m:Int) (j:Heap)=>(ks.length-k:Nat)) (0) (a) ([])) ?_ ?_
  ·refine M0 ⟨0,a,[],rfl,aw,?_,?_,by omega,rfl⟩;all_goals try exact zZz F
  rintro _ s2 h' ⟨k,m,j,rfl,rfl,e15,e5,hk,hm⟩ K2 hK2;simp only[ai,ak,Nat.reduceEqDiff, ↓reduceIte]at e15 e5;have F:=F3 F e15 e5;refine wk F ?_;refine cq F (fun c1=>?_) (fun c1=>?_)<;>(try exact c1.elim)<;>(refine wk F ?_)
  ·have c2:k<ks.length:=(by omega);obtain⟨y,hy,hym⟩:=ac c2;have hc:=fun h=>ih y hym (a+1) h (by omega) (by omega) (hkm y hym)
   rw[aF hy,Qy.depL]at hm;generalize y.dep (a+1)=e at hm hc;obtain⟨yo,yn,ys,yl⟩:=y;rw[Qy.av_eq]at hc;by_cases hem:e>m
   ·have d0:decide (e>m)=true:=(by simp;omega);rw[M1 (by omega)]at hm;have F:=F5 F hy c2 d0 @ax;(try refine sq F ?_);refine wk F ?_;refine kq F (hc _) ?_;refine hK2 _ _ _ (M0 ⟨k+1,e,j++[Blk.row 25 4 0 [.agg [.int .i64 yo,.int .i64 yn,.str ys,.sl 4 (yl.map Qy.av)]]],rfl,by simp,?_,?_,by omega,hm⟩) (by omega);all_goals try exact zZz F
   ·have d0:decide (e>m)=false:=(by simp;omega);rw[L5 (by omega)]at hm;have F:=F5 F hy c2 d0 @ax;(try refine sq F ?_);refine wk F ?_;refine kq F (hc _) ?_;refine hK2 _ _ _ (M0 ⟨k+1,m,j++[Blk.row 25 4 0 [.agg [.int .i64 yo,.int .i64 yn,.str ys,.sl 4 (yl.map Qy.av)]]],rfl,by simp,?_,?_,by omega,hm⟩) (by omega);all_goals try exact zZz F
  ·rw[aG c1,Qy.depL]at hm;refine ee hQ F ?_;exact L6 (.int _ _) ⟨by rw[hm],rfl⟩
theorem wz:∀(q:Qy) (h:Heap),q.sz≤1048576→Sat (CT G) 59 [q.av] h (fun r h'=>r=.int .i64 q.nod∧h'=h):=by
 refine Qy.ind fun op num s ks ih=>?_
 intro h hz;have hkl:=Qy.szL_len ks;have hkm:∀k∈ks,k.sz≤Qy.szL ks:=fun k hk=>Qy.szL_mem hk
 have hnt:=Qy.nodL_in ks 1;rw[Qy.sz]at hz;have hml:(ks.map Qy.av).length=ks.length:=L8 ..;rw[Qy.av_eq,Qy.nod];have F:=hml;refine sb [.tmp 2] Tryz.func59 ?_;intro Q hQ;refine wk F ?_;refine lm (fun nL tL hL=>∃(k:Nat) (m:Int) (j:Heap),ks.length-k=nL∧h++(.row 25 4 0 [.agg [.int .i64 op,.int .i64 num,.str s,.sl 4 (ks.map Qy.av)]]::j)=hL∧tL 9=.int .i64 k∧tL 3=.int .i64 m∧k≤ks.length∧1≤m∧Qy.nodL ks 1=Qy.nodL (ks.drop k) m) ((fun(k:Nat) (m:Int) (j:Heap)=>(ks.length-k:Nat)) (0) (1) ([])) ?_ ?_
 ·refine M0 ⟨0,1,[],rfl,aw,?_,?_,by omega,by omega,rfl⟩;all_goals try exact zZz F
 rintro _ s2 h' ⟨k,m,j,rfl,rfl,e9,e3,hk,h1,hm⟩ K2 hK2;simp only[ai,ak,Nat.reduceEqDiff, ↓reduceIte]at e9 e3;have F:=F3 F e9 e3;refine wk F ?_;refine cq F (fun c1=>?_) (fun c1=>?_)<;>(try exact c1.elim)<;>(refine wk F ?_)
 ·have c2:k<ks.length:=by omega
  obtain⟨y,hy,hym⟩:=ac c2;have hc:=fun h=>ih y hym h (by have:=hkm y hym;omega)
  rw[aF hy,Qy.nodL]at hm;have hb:=Qy.nodL_in (ks.drop (k+1)) (m+y.nod);have hy1:=Qy.nod_in y;generalize y.nod=e at hm hc hb hy1;obtain⟨yo,yn,ys,yl⟩:=y;rw[Qy.av_eq]at hc;have wm:IntKind.i64.wrap (m+e)=m+e:=by rw[U2];omega
  have F:=F5 F hy c2 wm @ax;try refine sq F ?_
  refine wk F ?_;refine kq F (hc _) ?_;refine hK2 _ _ _ (M0 ⟨k+1,m+e,j++[Blk.row 25 4 0 [.agg [.int .i64 yo,.int .i64 yn,.str ys,.sl 4 (yl.map Qy.av)]]],rfl,by simp,?_,?_,by omega,by omega,hm⟩) (by omega);all_goals try exact zZz F
 ·rw[aG c1,Qy.nodL]at hm;refine ee hQ F ?_;exact L6 (.int _ _) ⟨by rw[hm],rfl⟩
end
section
attribute [local irreducible] WP WPl WPix Sat
namespace Qy
def num:Qy→Int| .mk _ n _ _=>n
def op:Qy→Int| .mk o _ _ _=>o
def txt:Qy→Bs| .mk _ _ s _=>s
def kds:Qy→List Qy| .mk _ _ _ ks=>ks
mutual
def all(pl:Qy→Bool):Qy→Bool
 | .mk op num s ks=>allL pl ks&&pl (.mk op num s ks)
def allL(pl:Qy→Bool):List Qy→Bool
 | []=>true
 |k::ks=>k.all pl&&allL pl ks
end
theorem allL_eq(pl:Qy→Bool):∀ks:List Qy,allL pl ks=ks.all (all pl)
 | []=>by simp[allL]
 |k::ks=>by rw[allL,allL_eq pl ks];rfl
end Qy
variable (G:Nat→Option (List AVal))
theorem tN:∀(q:Qy) (d n:Int) (h:Heap),0≤d→d≤70→0≤n→n≤300→q.mx≤9223372036854775807→Sat (CT G) 17 [q.av,.int .i64 d,.int .i64 n] h (fun r h'=>r=.int .i64 (q.left d n)∧h'=h):=by
 refine Qy.ind fun op num s ks ih=>?_
 intro d n h d1 d2 n1 n2 hz;obtain⟨hsl,hkl,hkm⟩:=Qy.mx_mk hz;have hml:(ks.map Qy.av).length=ks.length:=L8 ..;rw[Qy.av_eq,Qy.left];have q1:((s.length:Int)).tdiv 20=(s.length:Int)/20:=Int.tdiv_eq_ediv_of_nonneg (by omega);have q2:IntKind.i64.wrap ((s.length:Int)/20)=(s.length:Int)/20:=by rw[U2];omega
 have q3:IntKind.i64.wrap (n-1)=n-1:=by rw[U2];omega
 have q4:IntKind.i64.wrap (n-1-(s.length:Int)/20)=n-1-(s.length:Int)/20:=by rw[U2];omega
 have q5:IntKind.i64.wrap (d+1)=d+1:=by rw[U2];omega
 generalize hn0:n-1-(s.length:Int)/20=n0 at q4;have hn3:n0≤300:=by omega
 have F:=F7 hml q1 q2 q3 q4 q5 hn0;refine sb [.tmp 6] Tryz.func17 ?_;intro Q hQ;refine wk F ?_;refine lm (fun nL tL hL=>∃(k:Nat) (m:Int),ks.length-k=nL∧h++[.row 25 4 0 [.agg [.int .i64 op,.int .i64 num,.str s,.sl 4 (ks.map Qy.av)]]]=hL∧tL 7=.int .i64 k∧tL 2=.int .i64 m∧k≤ks.length∧m≤300∧Qy.leftL ks d n0=Qy.leftL (ks.drop k) d m) ((fun(k:Nat) (m:Int)=>(ks.length-k:Nat)) (0) (n0)) ?_ ?_
 ·refine M0 ⟨0,n0,rfl,aw,?_,?_,by omega,hn3,rfl⟩;all_goals try exact zZz F
 rintro _ s2 h' ⟨k,m,rfl,rfl,e7,e2,hk,hm2,hm⟩ K2 hK2;simp only[ai,ak,Nat.reduceEqDiff, ↓reduceIte]at e7 e2;have F:=F3 F e7 e2;by_cases c1:k<ks.length
 ·have b1:decide (k<ks.length)=true:=by simp[c1]
  obtain⟨y,hy,hym⟩:=ac c1;rw[aF hy,Qy.leftL]at hm;by_cases c2:m>0∧d<70
  ·have b2:decide (m>0)=true:=(by simp;omega);have b3:decide (d<70)=true:=(by simp;omega);have hc:=ih y hym (d+1) m (h++[.row 25 4 0 [.agg [.int .i64 op,.int .i64 num,.str s,.sl 4 (ks.map Qy.av)]]]) (by omega) (by omega) (by omega) hm2 (hkm y hym);rw[M1 c2]at hm;have hle:=(Qy.left_le y (d+1) m).1;generalize y.left (d+1) m=e at hm hc hle;obtain⟨yo,yn,ys,yl⟩:=y;rw[Qy.av_eq]at hc;have dt:∀i:Decidable True, @decide True i=true:=fun i=>by simp
   have F:=F6 F b2 b3 hy c1 dt;refine wk F ?_;refine kq F (hc) ?_;refine hK2 _ _ _ (M0 ⟨k+1,e,rfl,aw,?_,?_,by omega,by omega,hm⟩) (by omega);all_goals try exact zZz F
  ·rw[L5 c2]at hm;by_cases c3:m>0
   ·have b2:decide (m>0)=true:=(by simp;omega);have b3:decide (d<70)=false:=(by simp;omega);have F:=F4 F b1 b2 b3;refine wk F ?_;refine ee hQ F ?_;exact L6 (.int _ _) ⟨by rw[hm],rfl⟩
   ·have b2:decide (m>0)=false:=(by simp;omega);have F:=F3 F b1 b2;refine wk F ?_;refine ee hQ F ?_;exact L6 (.int _ _) ⟨by rw[hm],rfl⟩
 ·have b1:decide (k<ks.length)=false:=by simp[c1]
  rw[aG (by omega),Qy.leftL]at hm;have F:=F2 F b1;refine wk F ?_;refine ee hQ F ?_;exact L6 (.int _ _) ⟨by rw[hm],rfl⟩
theorem rF(q:Qy)(h:Heap)(hz:q.mx≤9223372036854775807):Sat (CT G) 5 [q.av] h (fun r h'=>r=.bool (decide (q.left 0 300≤0))∧h'=h):=by
 have hc:=fun h=>tN G q 0 300 h (by omega) (by omega) (by omega) (by omega) hz
 generalize q.left 0 300=e at*;obtain⟨yo,yn,ys,yl⟩:=q;rw[Qy.av_eq]at*;refine sb [.tmp 2] Tryz.func5 ?_;intro Q hQ;refine wk trivial ?_;refine kq trivial (hc _) ?_;refine ee hQ trivial ?_;exact L6 (.bool _) ⟨rfl,rfl⟩
theorem rG(q:Qy)(h:Heap)(hz:q.mx≤9223372036854775807):Sat (CT G) 31 [q.av] h (fun r h'=>r=.int .i64 (q.dep 1)∧h'=h):=by
 have hc:=fun h=>ww G q 1 h (by omega) (by omega) hz
 generalize q.dep 1=e at*;obtain⟨yo,yn,ys,yl⟩:=q;rw[Qy.av_eq]at*;refine sb [.tmp 2] Tryz.func31 ?_;intro Q hQ;refine wk trivial ?_;refine kq trivial (hc _) ?_;refine ee hQ trivial ?_;exact L6 (.int _ _) ⟨rfl,rfl⟩
theorem rH(q:Qy)(h:Heap)(hz:q.mx≤9223372036854775807):Sat (CT G) 58 [q.av] h (fun r h'=>r=.int .i64 (q.dep 1)∧h'=h):=by
 have hc:=fun h=>wy G q 1 h (by omega) (by omega) hz
 generalize q.dep 1=e at*;obtain⟨yo,yn,ys,yl⟩:=q;rw[Qy.av_eq]at*;refine sb [.tmp 2] Tryz.func58 ?_;intro Q hQ;refine wk trivial ?_;refine kq trivial (hc _) ?_;refine ee hQ trivial ?_;exact L6 (.int _ _) ⟨rfl,rfl⟩
namespace Qy
theorem eI:∀(ks:List Qy) (a m:Int),m≤depL ks a m
 | [],a,m=>by rw[depL];omega
 |k::ks,a,m=>by
  rw[depL];split
  ·have:=eI ks a (k.dep (a+1));omega
  ·exact eI ks a m
mutual
theorem pD:∀(q:Qy) (a n:Int),1≤a→q.dep a≤12→0<q.left (a-1) n→(q.sz:Int)≤20*(n-q.left (a-1) n)
 | .mk op num s ks,a,n,h1,hd,hl=>by
  rw[left]at hl ⊢;rw[dep]at hd;rw[sz];have ha:¬a>64:=fun h=>by rw[M1 h]at hd;omega
  rw[L5 ha]at hd;have:=nE ks a a (n-1-s.length/20) h1 (Int.le_refl _) hd hl;omega
theorem nE:∀(ks:List Qy) (a m n:Int),1≤a→a≤m→depL ks a m≤12→0<leftL ks (a-1) n→(szL ks:Int)≤20*(n-leftL ks (a-1) n)
 | [],a,m,n,h1,h2,hd,hl=>by rw[leftL,szL];omega
 |k::ks,a,m,n,h1,h2,hd,hl=>by
  rw[depL]at hd;rw[leftL]at hl ⊢;rw[szL];have e1:a-1+1=a+1-1:=by omega
  rw[e1]at hl ⊢;split at hl
  ·rename_i hc;rw[M1 hc];have h3:=(jq ks (a-1) (k.left (a+1-1) n)).1;have hd2:k.dep (a+1)≤12∧∃m',a≤m'∧depL ks a m'≤12:=by
    split at hd
    ·exact⟨by have:=eI ks a (k.dep (a+1));omega,_,by omega,hd⟩
    ·exact⟨by have:=eI ks a m;omega,_,h2,hd⟩
   obtain⟨h4,m',h5,h6⟩:=hd2;have k1:=pD k (a+1) n (by omega) h4 (by omega);have k2:=nE ks a m' _ h1 h5 h6 hl;omega
  ·rename_i hc;have:m≤12:=by
    split at hd
    ·have:=eI ks a (k.dep (a+1));omega
    ·have:=eI ks a m;omega
   omega
end
theorem small{q:Qy}(h:¬q.left 0 300≤0)(hd:q.dep 1≤12):q.sz≤6000:=by
 have:=pD q 1 300 (by omega) hd (by simpa using h);simp only[Int.sub_self]at this;omega
end Qy
end
section
attribute [local irreducible] WP WPl WPix Sat
variable (G:Nat→Option (List AVal))
theorem wA(pl:Qy→Bool)(B:Nat)(hB:B≤1048576)(hp:∀q h,q.sz≤B→Sat (CT G) 67 [q.av] h (fun r h'=>r=.bool (pl q)∧h'=h)):
  ∀(q:Qy) (h:Heap),q.sz≤B→Sat (CT G) 33 [q.av] h (fun r h'=>r=.bool (q.all pl)∧h'=h):=by
 refine Qy.ind fun op num s ks ih=>?_
 intro h hz;have hpl:=fun h=>hp (.mk op num s ks) h hz
 have hkl:=Qy.szL_len ks;have hkm:∀k∈ks,k.sz≤Qy.szL ks:=fun k hk=>Qy.szL_mem hk
 rw[Qy.sz]at hz;have hml:(ks.map Qy.av).length=ks.length:=L8 ..;rw[Qy.all];generalize pl (.mk op num s ks)=pq at*;rw[Qy.av_eq]at*;have F:=hml;refine sb [.tmp 2] Tryz.func33 ?_;intro Q hQ;refine wk F ?_;refine lm (fun nL tL hL=>∃(k:Nat),ks.length-k=nL∧h++[.row 25 4 0 [.agg [.int .i64 op,.int .i64 num,.str s,.sl 4 (ks.map Qy.av)]]]=hL∧tL 3=.int .i64 k∧k≤ks.length∧Qy.allL pl ks=Qy.allL pl (ks.drop k)) ((fun(k:Nat)=>(ks.length-k:Nat)) (0)) ?_ ?_
 ·refine M0 ⟨0,rfl,aw,?_,by omega,rfl⟩;all_goals try exact zZz F
 rintro _ s2 h' ⟨k,rfl,rfl,e3,hk,hm⟩ K2 hK2;simp only[ai,ak,Nat.reduceEqDiff, ↓reduceIte]at e3;have F:=F2 F e3;refine wk F ?_;refine cq F (fun c1=>?_) (fun c1=>?_)<;>(try exact c1.elim)<;>(refine wk F ?_)
 ·have c2:k<ks.length:=by omega
  obtain⟨y,hy,hym⟩:=ac c2;have hc:=fun h=>ih y hym h (by have:=hkm y hym;omega)
  rw[aF hy,Qy.allL]at hm;cases he:y.all pl with
  |true=>
   rw[he,T6]at hm;rw[he]at hc;clear he;obtain⟨yo,yn,ys,yl⟩:=y;rw[Qy.av_eq]at hc;have F:=F3 F hy c2;(try refine sq F ?_);refine wk F ?_;refine kq F (hc _) ?_;refine hK2 _ _ _ (M0 ⟨k+1,rfl,aw,?_,by omega,hm⟩) (by omega);all_goals try exact zZz F
  |false=>
   rw[he,zc9]at hm;rw[he]at hc;clear he;obtain⟨yo,yn,ys,yl⟩:=y;rw[Qy.av_eq]at hc;have F:=F3 F hy c2;(try refine sq F ?_);refine wk F ?_;refine kq F (hc _) ?_;refine ee hQ F ?_;exact L6 (.bool _) ⟨by rw[hm];rfl,rfl⟩
 ·rw[aG c1,Qy.allL]at hm;refine wk F ?_;refine kq F (hpl _) ?_;refine ee hQ F ?_;exact L6 (.bool _) ⟨by rw[hm];rfl,rfl⟩
def ixQ{α:Type}(p:α→Bool)(l:List α):Int:=match l.findIdx? p with
 |some k=>(k:Int)
 |none=> -1
theorem iO{α:Type}(p:α→Bool)(l:List α):decide (ixQ p l≥0)=l.any p:=by
 unfold ixQ;cases h:l.findIdx? p with
 |none=>
  rw[W8]at h;have:l.any p=false:=by rw[W6];intro x hx;rw[h x hx];simp
  rw[this];rfl
 |some k=>
  obtain⟨hk,hp,_⟩:=T5.1 h;have:l.any p=true:=Z8.2 ⟨l[k],List.getElem_mem hk,hp⟩;rw[this];simp
theorem kz{α:Type}{p:α→Bool}{l:List α}{k:Nat}{y:α}(hy:l[k]? =some y)(he:p y=true)(hp:∀a∈l.take k,p a=false):ixQ p l=k:=by
 obtain⟨c2,hk⟩:=f9.1 hy;unfold ixQ;have:l.findIdx? p=some k:=by
  rw[T5];refine⟨c2,by rw[hk];exact he,fun i hi=>?_⟩;rw[hp _ (by rw[List.mem_take_iff_getElem];exact⟨i,by omega,rfl⟩)];simp
 rw[this]
theorem kA{α:Type}{p:α→Bool}{l:List α}(hp:∀a∈l,p a=false):ixQ p l= -1:=by
 unfold ixQ;rw[W8.2 hp]
theorem er{α:Type}{p:α→Bool}{l:List α}{k:Nat}{y:α}(hy:l[k]? =some y)(he:p y=false)(hp:∀a∈l.take k,p a=false):∀a∈l.take (k+1),p a=false:=by
 rw[O3,hy];intro a ha;simp at ha;rcases ha with ha|rfl
 ·exact hp a ha
 ·exact he
def FinW{σ:Type}(Hp:σ→Heap):Prop:=∀(x y:σ) (r:AVal) (R:AVal→Heap→Prop),(∀N,Clo N r)→R r (Hp y)→Fin (Hp x) (Hp y) R r
theorem oH{σ:Type}{Hp:σ→Heap}{P:σ→Prop}(hF:FinW Hp)(p:Qy→Bool)(g:FuncId)(cap:List AVal)(l:List Qy)(hl:l.length≤1048576)
  (hg:∀a∈l,∀x,P x→Sat (CT G) g ([]++[a.av]++cap) (Hp x) (fun r h'=>r=.bool (p a)∧∃y,P y∧h'=Hp y))(x:σ)(hx:P x):
  Sat (CT G) 135 [.sl 4 (l.map Qy.av),.fn (.func g) [] cap] (Hp x) (fun r h'=>r=.int .i64 (ixQ p l)∧∃y,P y∧h'=Hp y):=by
 have hml:(l.map Qy.av).length=l.length:=L8 ..;have F:=hml;refine sb [.tmp 4] Tryz.func135 ?_;intro Q hQ;refine wk F ?_;refine lm (fun nL tL hL=>∃(k:Nat) (z:σ),l.length-k=nL∧Hp z=hL∧tL 8=.int .i64 k∧k≤l.length∧P z∧(∀a∈l.take k,p a=false)) ((fun(k:Nat) (z:σ)=>(l.length-k:Nat)) (0) (x)) ?_ ?_
 ·refine M0 ⟨0,x,rfl,aw,?_,Y4 _,hx,by simp⟩;all_goals try exact zZz F
 rintro _ s2 h' ⟨k,z,rfl,rfl,e8,hk,hz,hp⟩ K2 hK2;simp only[ai,ak,Nat.reduceEqDiff, ↓reduceIte]at e8;have F:=F2 F e8;refine wk F ?_;refine cq F (fun c1=>?_) (fun c1=>?_)<;>(try exact c1.elim)<;>(refine wk F ?_)
 ·have c2:k<l.length:=by omega
  obtain⟨y,hy,hym⟩:=ac c2;have hc:=hg y hym z hz;cases he:p y with
  |true=>
   have e:=kz hy he hp;rw[he]at hc;clear he;obtain⟨yo,yn,ys,yl⟩:=y;rw[Qy.av_eq]at hc;have F:=F3 F hy c2;(try refine sq F ?_);refine wk F ?_;refine hc.mono ?_;rintro r h' ⟨rfl,u,hu,rfl⟩;(try refine sq F ?_);refine wk F ?_;refine ee hQ F ?_;exact hF _ _ _ _ (fun N=>.int _ _) ⟨by rw[e],u,hu,rfl⟩
  |false=>
   have hp1:=er hy he hp;rw[he]at hc;clear he;obtain⟨yo,yn,ys,yl⟩:=y;rw[Qy.av_eq]at hc;have F:=F3 F hy c2;(try refine sq F ?_);refine wk F ?_;refine hc.mono ?_;rintro r h' ⟨rfl,u,hu,rfl⟩;(try refine sq F ?_);refine wk F ?_;refine hK2 _ _ _ (M0 ⟨k+1,u,rfl,aw,?_,by omega,hu,hp1⟩) (by omega);all_goals try exact zZz F
 ·have e:=kA (p:=p) (l:=l) fun a ha=>hp a (by rwa [M4 (by omega)])
  refine ee hQ F ?_;exact hF _ _ _ _ (fun N=>.int _ _) ⟨by rw[e],z,hz,rfl⟩
theorem ix{σ:Type}{Hp:σ→Heap}{P:σ→Prop}(hF:FinW Hp)(p:Qy→Bool)(g:FuncId)(cap:List AVal)(l:List Qy)(hl:l.length≤1048576)
  (hg:∀a∈l,∀x,P x→Sat (CT G) g ([]++[a.av]++cap) (Hp x) (fun r h'=>r=.bool (p a)∧∃y,P y∧h'=Hp y))(x:σ)(hx:P x):
  Sat (CT G) 100 [.sl 4 (l.map Qy.av),.fn (.func g) [] cap] (Hp x) (fun r h'=>r=.bool (l.any p)∧∃y,P y∧h'=Hp y):=by
 have hc:=oH G hF p g cap l hl hg x hx;rw[← iO];refine sb [.tmp 4] Tryz.func100 ?_;intro Q hQ;refine wk trivial ?_;refine hc.mono ?_;rintro r h' ⟨rfl,u,hu,rfl⟩;try refine sq trivial ?_
 refine wk trivial ?_;refine ee hQ trivial ?_;exact hF _ _ _ _ (fun N=>.bool _) ⟨rfl,u,hu,rfl⟩
theorem wB(p:Qy→Bool)(g:FuncId)(cap:List AVal)(h:Heap)(l:List Qy)(hl:l.length≤1048576)(hg:∀a∈l,Sat (CT G) g ([]++[a.av]++cap) h (fun r h'=>r=.bool (p a)∧h'=h)):
  Sat (CT G) 100 [.sl 4 (l.map Qy.av),.fn (.func g) [] cap] h (fun r h'=>r=.bool (l.any p)∧h'=h):=
 (ix G (Hp:=fun _:Unit=>h) (P:=fun _=>True) (fun _ _ _ _ hc hR=>O5 (hc _) hR) p g cap l hl (fun a ha _ _=>(hg a ha).mono fun r h' ⟨h1,h2⟩=>⟨h1,(),trivial,h2⟩) () trivial).mono fun r h' ⟨h1,_,_,h2⟩=>⟨h1,h2⟩
def plP(nm tx kd:Qy→Bool)(q:Qy):Bool:= !(decide (q.op<1)||(decide (q.op>15)||(!nm q||(!tx q|| !kd q))))
theorem rI(nm tx kd:Qy→Bool)(B:Nat)(hB:B≤1048576)(h1:∀q h,q.sz≤B→Sat (CT G) 97 [q.av] h (fun r h'=>r=.bool (nm q)∧h'=h))(h2:∀q h,q.sz≤B→Sat (CT G) 98 [q.av] h (fun r h'=>r=.bool (tx q)∧h'=h))
  (h3:∀q h,q.sz≤B→Sat (CT G) 99 [q.av] h (fun r h'=>r=.bool (kd q)∧h'=h)):
  ∀(q:Qy) (h:Heap),q.sz≤B→Sat (CT G) 60 [q.av] h (fun r h'=>r=.bool (q.all (plP nm tx kd))∧h'=h):=by
 refine Qy.ind fun op num s ks ih=>?_
 intro h hz;have k1:=fun h=>h1 (.mk op num s ks) h hz
 have k2:=fun h=>h2 (.mk op num s ks) h hz
 have k3:=fun h=>h3 (.mk op num s ks) h hz
 have hkl:=Qy.szL_len ks;have hkm:∀k∈ks,k.sz≤Qy.szL ks:=fun k hk=>Qy.szL_mem hk
 rw[Qy.sz]at hz;have hcl:∀a∈ks,∀h,Sat (CT G) 101 ([]++[a.av]++[]) h (fun r h'=>r=.bool (!a.all (plP nm tx kd))∧h'=h):=fun a ha h=>by
  have hc:=fun h=>ih a ha h (by have:=hkm a ha;omega)
  generalize a.all (plP nm tx kd)=e at*;obtain⟨yo,yn,ys,yl⟩:=a;rw[Qy.av_eq]at*;refine sb [.tmp 2] Tryz.func101 ?_;intro Q hQ;refine wk trivial ?_;refine kq trivial (hc _) ?_;refine ee hQ trivial ?_;exact L6 (.bool _) ⟨rfl,rfl⟩
 have hany:=fun h=>wB G (fun a=> !a.all (plP nm tx kd)) 101 [] h ks (by omega) (fun a ha=>hcl a ha h)
 have hfin:(!ks.any fun a=> !a.all (plP nm tx kd))=Qy.allL (plP nm tx kd) ks:=by
  rw[Qy.allL_eq,List.all_eq_not_any_not]
 rw[Qy.all, ← hfin];generalize (ks.any fun a=> !a.all (plP nm tx kd))=ay at*;unfold plP;show Sat _ _ _ _ (fun r h'=>r=.bool (!ay&& !(decide (op<1)||(decide (op>15)||(!nm (.mk op num s ks)||(!tx (.mk op num s ks)|| !kd (.mk op num s ks))))))∧h'=h);generalize nm (.mk op num s ks)=e1 at*;generalize tx (.mk op num s ks)=e2 at*;generalize kd (.mk op num s ks)=e3 at*;rw[Qy.av_eq]at*;have dt:∀i:Decidable True, @decide True i=true:=fun i=>by simp
 have df:∀i:Decidable False, @decide False i=false:=fun i=>by simp
 cases b1:decide (op<1)with
 |true=>
  have F:=b1;refine sb [.tmp 2] Tryz.func60 ?_;intro Q hQ;refine wk F ?_;refine ee hQ F ?_;exact L6 (.bool _) ⟨by simp,rfl⟩
 |false=>
 cases b2:decide (op>15)with
 |true=>
  have F:=F2 b1 b2;refine sb [.tmp 2] Tryz.func60 ?_;intro Q hQ;refine wk F ?_;refine ee hQ F ?_;exact L6 (.bool _) ⟨by simp,rfl⟩
 |false=>
 have F:=F2 b1 b2;cases e1 with
 |false=>
  refine sb [.tmp 2] Tryz.func60 ?_;intro Q hQ;refine wk F ?_;refine kq F (k1 _) ?_;refine ee hQ F ?_;exact L6 (.bool _) ⟨by simp,rfl⟩
 |true=>
 cases e2 with
 |false=>
  refine sb [.tmp 2] Tryz.func60 ?_;intro Q hQ;refine wk F ?_;refine kq F (k1 _) ?_;refine kq F (k2 _) ?_;refine ee hQ F ?_;exact L6 (.bool _) ⟨by simp,rfl⟩
 |true=>
 cases e3 with
 |false=>
  refine sb [.tmp 2] Tryz.func60 ?_;intro Q hQ;refine wk F ?_;refine kq F (k1 _) ?_;refine kq F (k2 _) ?_;refine kq F (k3 _) ?_;refine ee hQ F ?_;exact L6 (.bool _) ⟨by simp,rfl⟩
 |true=>
  refine sb [.tmp 2] Tryz.func60 ?_;intro Q hQ;refine wk F ?_;refine kq F (k1 _) ?_;refine kq F (k2 _) ?_;refine kq F (k3 _) ?_;refine kq F (hany _) ?_;refine ee hQ F ?_;exact L6 (.bool _) ⟨by simp,rfl⟩
theorem rJ(p:Bs→Bool)(g:FuncId)(cap:List AVal)(h:Heap)(l:List Bs)(hl:l.length≤1048576)(hg:∀a∈l,Sat (CT G) g ([]++[.str a]++cap) h (fun r h'=>r=.bool (p a)∧h'=h)):
  Sat (CT G) 206 [.sl 1 (l.map .str),.fn (.func g) [] cap] h (fun r h'=>r=.int .i64 (ixQ p l)∧h'=h):=by
 have hml:(l.map AVal.str).length=l.length:=L8 ..;have F:=hml;refine sb [.tmp 4] Tryz.func206 ?_;intro Q hQ;refine wk F ?_;refine lm (fun nL tL hL=>∃(k:Nat),l.length-k=nL∧h=hL∧tL 8=.int .i64 k∧k≤l.length∧(∀a∈l.take k,p a=false)) ((fun(k:Nat)=>(l.length-k:Nat)) (0)) ?_ ?_
 ·refine M0 ⟨0,rfl,aw,?_,Y4 _,by simp⟩;all_goals try exact zZz F
 rintro _ s2 h' ⟨k,rfl,rfl,e8,hk,hp⟩ K2 hK2;simp only[ai,ak,Nat.reduceEqDiff, ↓reduceIte]at e8;have F:=F2 F e8;refine wk F ?_;refine cq F (fun c1=>?_) (fun c1=>?_)<;>(try exact c1.elim)<;>(refine wk F ?_)
 ·have c2:k<l.length:=by omega
  obtain⟨y,hy,hym⟩:=ac c2;have hc:=hg y hym;cases he:p y with
  |true=>
   have e:=kz hy he hp;rw[he]at hc;clear he;have F:=F3 F hy c2;(try refine sq F ?_);refine wk F ?_;refine kq F (hc) ?_;refine ee hQ F ?_;exact O5 (.int _ _) ⟨by rw[e],rfl⟩
  |false=>
   have hp1:=er hy he hp;rw[he]at hc;clear he;have F:=F3 F hy c2;(try refine sq F ?_);refine wk F ?_;refine kq F (hc) ?_;refine hK2 _ _ _ (M0 ⟨k+1,rfl,aw,?_,by omega,hp1⟩) (by omega);all_goals try exact zZz F
 ·have e:=kA (p:=p) (l:=l) fun a ha=>hp a (by rwa [M4 (by omega)])
  refine ee hQ F ?_;exact O5 (.int _ _) ⟨by rw[e],rfl⟩
theorem wC(p:Bs→Bool)(g:FuncId)(cap:List AVal)(h:Heap)(l:List Bs)(hl:l.length≤1048576)(hg:∀a∈l,Sat (CT G) g ([]++[.str a]++cap) h (fun r h'=>r=.bool (p a)∧h'=h)):
  Sat (CT G) 170 [.sl 1 (l.map .str),.fn (.func g) [] cap] h (fun r h'=>r=.bool (l.any p)∧h'=h):=by
 have hc:=rJ G p g cap h l hl hg;rw[← iO];refine sb [.tmp 4] Tryz.func170 ?_;intro Q hQ;refine wk trivial ?_;refine kq trivial (hc) ?_;refine ee hQ trivial ?_;exact O5 (.bool _) ⟨rfl,rfl⟩
theorem rK(s:Bs)(hs:s.length≤100000)(h:Heap):Sat (CT G) 169 [.str s] h (fun r h'=>r=.tup [.str ((wordsF s).headD []),.bool (!(wordsF s).isEmpty)]∧h'=h):=by
 have hW:=gD G s hs;generalize wordsF s=ws at*;have ct:∀(t:Bs) (b:Bool),Clo h.length (.tup [.str t,.bool b]):=fun t b=>.tup _ (fun x hx=>by simp only[N2,P7,or_false]at hx;rcases hx with rfl|rfl;exact .str _;exact .bool _)
 match ws with
 | []=>
  refine sb [.tmp 2,.tmp 3] Tryz.func169 ?_;intro Q hQ;refine wk trivial ?_;refine kq trivial (hW _) ?_;refine ee hQ trivial ?_;exact O5 (ct _ _) ⟨rfl,rfl⟩
 |w::l=>
  refine sb [.tmp 2,.tmp 3] Tryz.func169 ?_;intro Q hQ;refine wk trivial ?_;refine kq trivial (hW _) ?_;repeat' (first
   | (exfalso;first|omega| (simp at hx;done)| (simp at hx;omega))
   | (refine cq trivial (fun hx=>?_) (fun hx=>?_)<;>(try exact hx.elim)<;>(refine wk trivial ?_))
   | ((first|refine gq trivial (fun hx=>?_) (fun hx=>?_)|refine pq trivial (fun hx=>?_) (fun hx=>?_))<;>(try exact hx.elim)<;>(try refine sq trivial ?_)<;>(refine wk trivial ?_)))
  refine ee hQ trivial ?_;exact O5 (ct _ _) ⟨rfl,rfl⟩
def hasG(p:Bs→Bs→Bool)(s w:Bs):Bool:=match wordsF w with
 | []=>false
 |f::_=>(wordsF s).any fun x=>p x f
theorem tO(p:Bs→Bs→Bool)(g:FuncId)(hg:∀x f h,Sat (CT G) g ([]++[.str x,.str f]++[]) h (fun r h'=>r=.bool (p x f)∧h'=h))(x f:Bs)(h:Heap):
  Sat (CT G) 171 ([]++[.str x]++[.hp h.length 0 0 0,.hp (h.length+1) 0 0 0]) (h++[.row 163 1 0 [.fn (.func g) [] []],.row 9 1 0 [.str f]]) (fun r h'=>r=.bool (p x f)∧h'=h++[.row 163 1 0 [.fn (.func g) [] []],.row 9 1 0 [.str f]]):=by
 have hc:=hg x f;generalize p x f=b at*;have F:= @ax;refine sb [.tmp 4] Tryz.func171 ?_;intro Q hQ;refine wk F ?_;refine kq F (hc _) ?_;refine ee hQ F ?_;exact O5 (.bool _) ⟨rfl,rfl⟩
theorem lV(p:Bs→Bs→Bool)(g:FuncId)(hg:∀x f h,Sat (CT G) g ([]++[.str x,.str f]++[]) h (fun r h'=>r=.bool (p x f)∧h'=h))(s w:Bs)(hs:s.length≤100000)(hw:w.length≤100000)(h:Heap):
  Sat (CT G) 139 [.str s,.str w,.fn (.func g) [] []] h (fun r h'=>r=.bool (hasG p s w)∧h'=h):=by
 have hF:=rK G w hw;have hW:=gD G s hs;have hwl:(wordsF s).length≤1048576:=by
  unfold wordsF;rw[L8];have h1:=jt (foldS s);have h2:=cW s;omega
 unfold hasG;generalize wordsF w=ws at*;generalize wordsF s=vs at*
 match ws with
 | []=>
  simp only[List.headD_nil,List.isEmpty_nil,Bool.not_true]at hF;refine sb [.tmp 6] Tryz.func139 ?_;intro Q hQ;refine wk trivial ?_;refine kq trivial (hF _) ?_;refine ee hQ trivial ?_;exact L6 (.bool _) ⟨rfl,rfl⟩
 |f::l=>
  simp only[List.headD_cons,List.isEmpty_cons,zc8]at hF;have ha:=wC G (fun x=>p x f) 171 [.hp h.length 0 0 0,.hp (h.length+1) 0 0 0] _ vs hwl fun x _=>tO G p g hg x f h
  refine sb [.tmp 6] Tryz.func139 ?_;intro Q hQ;refine wk trivial ?_;refine kq trivial (hF _) ?_;refine kq trivial (hW _) ?_;refine kq trivial (ha) ?_;refine ee hQ trivial ?_;exact L6 (.bool _) ⟨rfl,rfl⟩
def hasF(s w:Bs):Bool:=hasG (fun x f=>decide (x=f)) s w
def bgnF(s w:Bs):Bool:=hasG (fun x f=>Lib.hasPrefix x f) s w
theorem wE(s w:Bs)(hs:s.length≤100000)(hw:w.length≤100000)(h:Heap):Sat (CT G) 107 [.str s,.str w] h (fun r h'=>r=.bool (hasF s w)∧h'=h):=by
 have hc:=lV G (fun x f=>decide (x=f)) 140 (fun x f h=>by
  refine sb [.tmp 4] Tryz.func140 ?_;intro Q hQ;refine wk trivial ?_;refine ee hQ trivial ?_;exact O5 (.bool _) ⟨by congr 1;rw[O9];simp,rfl⟩) s w hs hw
 unfold hasF;refine sb [.tmp 4] Tryz.func107 ?_;intro Q hQ;refine wk trivial ?_;refine kq trivial (hc _) ?_;refine ee hQ trivial ?_;exact O5 (.bool _) ⟨rfl,rfl⟩
theorem oI(s w:Bs)(hs:s.length≤100000)(hw:w.length≤100000)(h:Heap):Sat (CT G) 108 [.str s,.str w] h (fun r h'=>r=.bool (bgnF s w)∧h'=h):=by
 have hc:=lV G (fun x f=>Lib.hasPrefix x f) 141 (fun x f h=>gQ G x f h) s w hs hw;unfold bgnF;refine sb [.tmp 4] Tryz.func108 ?_;intro Q hQ;refine wk trivial ?_;refine kq trivial (hc _) ?_;refine ee hQ trivial ?_;exact O5 (.bool _) ⟨rfl,rfl⟩
end
section
attribute [local irreducible] WP WPl WPix Sat
theorem any_at{α:Type}{p:α→Bool}{l:List α}{k:Nat}{y:α}(hy:l[k]? =some y)(he:p y=true):l.any p=true:=Z8.2 ⟨y,N4 hy,he⟩
theorem any_no{α:Type}{p:α→Bool}{l:List α}(h:∀a∈l,p a=false):l.any p=false:=W6.2 fun a ha=>by rw[h a ha];exact Bool.false_ne_true
theorem fy{s:Bs}(hs:s.length≤100000):(wordsF s).length≤1048576:=by
 unfold wordsF;rw[L8];have h1:=jt (foldS s);have h2:=cW s;omega
variable (G:Nat→Option (List AVal))
theorem wF(s w:Bs)(hs:s.length≤20000)(hw:w.length≤20000)(h:Heap):Sat (CT G) 147 [.str s,.str w] h (fun r h'=>r=.bool (hasF s w)∧h'=h):=by
 have h1:=cG G s hs;have h2:=cG G w hw;have hl:=fy (s:=s) (by omega);have hl2:=fy (s:=w) (by omega);unfold hasF hasG;generalize wordsF s=l at*;generalize wordsF w=v at*;have ml:(l.map AVal.str).length=l.length:=L8 ..;have mv:(v.map AVal.str).length=v.length:=L8 ..;cases v with
 |nil=>
  have df:∀i:Decidable False, @decide False i=false:=fun i=>O0 id
  have F:=F2 ml df;refine sb [.tmp 4] Tryz.func147 ?_;intro Q hQ;refine wk F ?_;refine kq F (h1 _) ?_;refine kq F (h2 _) ?_;refine lm (fun nL tL hL=>∃(k:Nat),l.length-k=nL∧h=hL∧tL 7=.int .i64 k∧k≤l.length) ((fun(k:Nat)=>(l.length-k:Nat)) (0)) ?_ ?_
  ·refine M0 ⟨0,rfl,aw,?_,by omega⟩;all_goals try exact zZz F
  rintro _ s2 h' ⟨k,rfl,rfl,e7,hk⟩ K2 hK2;simp only[ai,ak,Nat.reduceEqDiff, ↓reduceIte]at e7;have F:=F2 F e7;refine wk F ?_;refine cq F (fun c1=>?_) (fun c1=>?_)<;>(try exact c1.elim)<;>(refine wk F ?_)
  ·have c2:k<l.length:=(by omega);refine hK2 _ _ _ (M0 ⟨k+1,rfl,aw,?_,by omega⟩) (by omega);all_goals try exact zZz F
  ·refine ee hQ F ?_;exact O5 (.bool _) ⟨rfl,rfl⟩
 |cons f v=>
  have dv:decide (((v.length+1:Nat):Int)>0)=true:=O4 (by omega);have F:=F3 ml mv dv;refine sb [.tmp 4] Tryz.func147 ?_;intro Q hQ;refine wk F ?_;refine kq F (h1 _) ?_;refine kq F (h2 _) ?_;refine lm (fun nL tL hL=>∃(k:Nat),l.length-k=nL∧h=hL∧tL 7=.int .i64 k∧k≤l.length∧(∀a∈l.take k,decide (a=f)=false)) ((fun(k:Nat)=>(l.length-k:Nat)) (0)) ?_ ?_
  ·refine M0 ⟨0,rfl,aw,?_,by omega,by simp⟩;all_goals try exact zZz F
  rintro _ s2 h' ⟨k,rfl,rfl,e7,hk,hp⟩ K2 hK2;simp only[ai,ak,Nat.reduceEqDiff, ↓reduceIte]at e7;have F:=F2 F e7;refine wk F ?_;refine cq F (fun c1=>?_) (fun c1=>?_)<;>(try exact c1.elim)<;>(refine wk F ?_)
  ·have c2:k<l.length:=(by omega);obtain⟨y,hy,hym⟩:=ac c2;by_cases c3:y=f
   ·subst c3;have e:=any_at (p:=fun x=>decide (x=y)) hy (by simp);have F:=F4 F c2 hy (F3 (@S5 Int _ _) (@S5 Bool _ _) (@S5 Bs _ _));(try refine sq F ?_);refine wk F ?_;refine ee hQ F ?_;exact O5 (.bool _) ⟨by rw[e],rfl⟩
   ·have d3:(y==f)=false:=(by simp[c3]);have hp1:=er (p:=fun x=>decide (x=f)) hy (by simp[c3]) hp;have F:=F4 F c2 hy d3;(try refine sq F ?_);refine wk F ?_;refine hK2 _ _ _ (M0 ⟨k+1,rfl,aw,?_,by omega,hp1⟩) (by omega);all_goals try exact zZz F
  ·have e:=any_no (p:=fun x=>decide (x=f)) (l:=l) fun a ha=>hp a (by rwa [M4 (by omega)])
   refine ee hQ F ?_;exact O5 (.bool _) ⟨by rw[e],rfl⟩
theorem oJ(s w:Bs)(hs:s.length≤20000)(hw:w.length≤20000)(h:Heap):Sat (CT G) 148 [.str s,.str w] h (fun r h'=>r=.bool (bgnF s w)∧h'=h):=by
 have h1:=cG G s hs;have h2:=cG G w hw;have hl:=fy (s:=s) (by omega);have hl2:=fy (s:=w) (by omega);unfold bgnF hasG;generalize wordsF s=l at*;generalize wordsF w=v at*;have ml:(l.map AVal.str).length=l.length:=L8 ..;have mv:(v.map AVal.str).length=v.length:=L8 ..;cases v with
 |nil=>
  have df:∀i:Decidable False, @decide False i=false:=fun i=>O0 id
  have F:=F2 ml df;refine sb [.tmp 4] Tryz.func148 ?_;intro Q hQ;refine wk F ?_;refine kq F (h1 _) ?_;refine kq F (h2 _) ?_;refine lm (fun nL tL hL=>∃(k:Nat),l.length-k=nL∧h=hL∧tL 7=.int .i64 k∧k≤l.length) ((fun(k:Nat)=>(l.length-k:Nat)) (0)) ?_ ?_
  ·refine M0 ⟨0,rfl,aw,?_,by omega⟩;all_goals try exact zZz F
  rintro _ s2 h' ⟨k,rfl,rfl,e7,hk⟩ K2 hK2;simp only[ai,ak,Nat.reduceEqDiff, ↓reduceIte]at e7;have F:=F2 F e7;refine wk F ?_;refine cq F (fun c1=>?_) (fun c1=>?_)<;>(try exact c1.elim)<;>(refine wk F ?_)
  ·have c2:k<l.length:=(by omega);refine hK2 _ _ _ (M0 ⟨k+1,rfl,aw,?_,by omega⟩) (by omega);all_goals try exact zZz F
  ·refine ee hQ F ?_;exact O5 (.bool _) ⟨rfl,rfl⟩
 |cons f v=>
  have dv:decide (((v.length+1:Nat):Int)>0)=true:=O4 (by omega);have F:=F3 ml mv dv;refine sb [.tmp 4] Tryz.func148 ?_;intro Q hQ;refine wk F ?_;refine kq F (h1 _) ?_;refine kq F (h2 _) ?_;refine lm (fun nL tL hL=>∃(k:Nat),l.length-k=nL∧h=hL∧tL 7=.int .i64 k∧k≤l.length∧(∀a∈l.take k,Lib.hasPrefix a f=false)) ((fun(k:Nat)=>(l.length-k:Nat)) (0)) ?_ ?_
  ·refine M0 ⟨0,rfl,aw,?_,by omega,by simp⟩;all_goals try exact zZz F
  rintro _ s2 h' ⟨k,rfl,rfl,e7,hk,hp⟩ K2 hK2;simp only[ai,ak,Nat.reduceEqDiff, ↓reduceIte]at e7;have F:=F2 F e7;refine wk F ?_;refine cq F (fun c1=>?_) (fun c1=>?_)<;>(try exact c1.elim)<;>(refine wk F ?_)
  ·have c2:k<l.length:=(by omega);obtain⟨y,hy,hym⟩:=ac c2;have hpt:=Lib.hasPrefix_of_take y f;by_cases c3:f.length≤y.length
   ·have d0:=O4 c3;rw[d0,T6]at hpt;cases hb:Lib.hasPrefix y f with
    |true=>
     rw[hb]at hpt;have e:=any_at (p:=fun x=>Lib.hasPrefix x f) hy hb;have F:=F5 F c2 hy d0 hpt;(try refine sq F ?_);refine wk F ?_;refine ee hQ F ?_;exact O5 (.bool _) ⟨by rw[e],rfl⟩
    |false=>
     rw[hb]at hpt;have hp1:=er (p:=fun x=>Lib.hasPrefix x f) hy hb hp;have F:=F5 F c2 hy d0 hpt;(try refine sq F ?_);refine wk F ?_;refine hK2 _ _ _ (M0 ⟨k+1,rfl,aw,?_,by omega,hp1⟩) (by omega);all_goals try exact zZz F
   ·have d0:=O0 c3;rw[d0,zc9]at hpt;have hp1:=er (p:=fun x=>Lib.hasPrefix x f) hy hpt.symm hp;have F:=F4 F c2 hy d0;(try refine sq F ?_);refine wk F ?_;refine hK2 _ _ _ (M0 ⟨k+1,rfl,aw,?_,by omega,hp1⟩) (by omega);all_goals try exact zZz F
  ·have e:=any_no (p:=fun x=>Lib.hasPrefix x f) (l:=l) fun a ha=>hp a (by rwa [M4 (by omega)])
   refine ee hQ F ?_;exact O5 (.bool _) ⟨by rw[e],rfl⟩
theorem oK(x:St)(hl:x.fo.length≤100000)(id:Int)(h:Heap):Sat (CT G) 179 [x.av,.int .i64 id] h (fun r h'=>r=.bool (decide (id=0)||(fnd (·.id) x.fo id).isSome)∧h'=h):=by
 have hF:=fun h=>bK G x id hl h
 by_cases c1:id=0
 ·subst c1;refine sb [.tmp 4] Tryz.func179 ?_;intro Q hQ;refine wk trivial ?_;refine ee hQ trivial ?_;exact L6 (.bool _) ⟨rfl,rfl⟩
 ·have d1:(id==0)=false:=by simp[c1]
  cases hf:fnd (·.id) x.fo id with
  |none=>
   rw[dr hf]at hF;have F:=d1;refine sb [.tmp 4] Tryz.func179 ?_;intro Q hQ;refine wk F ?_;refine kq F (hF _) ?_;refine ee hQ F ?_;exact L6 (.bool _) ⟨by simp[c1],rfl⟩
  |some f=>
   obtain⟨k,_,hk,_⟩:=bd hf;rw[hk]at hF;have d2:decide ((k:Int)≥0)=true:=(by simp);have F:=F2 d1 d2;refine sb [.tmp 4] Tryz.func179 ?_;intro Q hQ;refine wk F ?_;refine kq F (hF _) ?_;refine ee hQ F ?_;exact L6 (.bool _) ⟨by simp[c1],rfl⟩
end
section
attribute [local irreducible] WP WPl WPix Sat
variable (G:Nat→Option (List AVal))
theorem iy(s:PS)(id:Int){H:Heap}{n:Nat}(hn:n+9≤H.length):Sat (CT G) 223 [.hp (n+8) 0 0 0,.int .i64 id] (so H n s) (fun r h'=>r=.tup [((lkM s.fo id).getD Fo.z).av,.bool (lkM s.fo id).isSome]∧h'=so H n s):=by
 refine sb [.cell 4 99,.tmp 5] Tryz.func223 ?_;intro Q hQ;refine wk trivial ?_;refine ye hQ trivial ?_;exact az hn (.tup _ (fun x hx=>by simp only[N2,P7,or_false]at hx;rcases hx with rfl|rfl;exact zd3 _ _;exact .bool _)) ⟨rfl,rfl⟩
theorem oL(s:PS){H:Heap}{n:Nat}(hn:n+9≤H.length):Sat (CT G) 109 [.hp (n+8) 0 0 0] (so H n s) (fun r h'=>r=.int .i64 s.clock∧h'=so H n s):=by
 refine sb [.tmp 2] Tryz.func109 ?_;intro Q hQ;refine wk trivial ?_;refine ee hQ trivial ?_;exact cQ hn (.int _ _) ⟨rfl,rfl⟩
theorem nF(s:PS)(id:Int){H:Heap}{n:Nat}(hn:n+9≤H.length):Sat (CT G) 204 [.hp (n+8) 0 0 0,.int .i64 id] (so H n s) (fun r h'=>r=.bool (s.within id)∧h'=so H n s):=by
 have hc:=iy G s id hn;cases hi:(id==0)with
 |true=>
  have F:=hi;refine sb [.tmp 4] Tryz.func204 ?_;intro Q hQ;refine wk F ?_;refine kq F (hc) ?_;refine ee hQ F ?_;exact az hn (.bool _) ⟨by unfold PS.within;rw[show decide (id=0)=(id==0)from rfl,hi];rfl,rfl⟩
 |false=>
  have F:=hi;refine sb [.tmp 4] Tryz.func204 ?_;intro Q hQ;refine wk F ?_;refine kq F (hc) ?_;refine ee hQ F ?_;exact az hn (.bool _) ⟨by unfold PS.within;rw[show decide (id=0)=(id==0)from rfl,hi];rfl,rfl⟩
def insF(l:ML Int Fo)(u:Int):Nat→Int→Bool
 |0,id=>decide (id=u)
 |k+1,id=>if id≠u∧id≠0 then insF l u k ((lkM l id).getD Fo.z).inn else decide (id=u)
theorem gJ{l:ML Int Fo}{u id:Int}(h:¬(id≠u∧id≠0)):∀k,insF l u k id=decide (id=u)
 |0=>rfl
 |k+1=>by rw[insF,L5 h]
theorem pE{l:ML Int Fo}{u id:Int}{k:Nat}(h:id≠u∧id≠0):insF l u (k+1) id=insF l u k ((lkM l id).getD Fo.z).inn:=by rw[insF,M1 h]
theorem oM(s:PS)(h:s.Inv)(id u:Int){H:Heap}{n:Nat}(hn:n+9≤H.length):Sat (CT G) 205 [.hp (n+8) 0 0 0,.int .i64 id,.int .i64 u] (so H n s) (fun r h'=>r=.bool (insF s.fo u 8 id)∧h'=so H n s):=by
 obtain⟨d0,hd0,hdp⟩:=h.dp id;have hz:lkM s.fo 0=none:=by
  cases hl:lkM s.fo 0 with
  |none=>rfl
  |some f=>have:=(h.i1 0 f hl).2.1;omega
 refine sb [.tmp 6] Tryz.func205 ?_;intro Q hQ;refine wk trivial ?_;refine lm (fun nL tL hL=>∃(k:Nat) (x:Int) (j:Heap),k=nL∧so (H++j) n s=hL∧tL 0=.hp (n+8) 0 0 0∧tL 1=.int .i64 x∧tL 2=.int .i64 u∧insF s.fo u 8 id=insF s.fo u k x∧(x=0∨∃m d,deepO s.fo m x=some d∧d+1≤k)) ((fun(k:Nat) (x:Int) (j:Heap)=>(k:Nat)) (8) (id) ([])) ?_ ?_
 ·refine M0 ⟨8,id,[],rfl,by rw[O2],?_,?_,?_,rfl,.inr ⟨7,d0,hdp,by omega⟩⟩;all_goals try exact zZz trivial
 rintro _ s2 h' ⟨k,x,j,rfl,rfl,e0,e1,e2,h1,h2⟩ K2 hK2;simp only[ai,ak,Nat.reduceEqDiff, ↓reduceIte]at e0 e1 e2;have F:=F3 e0 e1 e2;have hnj:n+9≤(H++j).length:=by simp;omega
 by_cases hc:x≠u∧x≠0
 ·have b1:(x !=u)=true:=by simpa using hc.1
  have b2:(x !=0)=true:=by simpa using hc.2
  obtain⟨m,d,hm,hdk⟩:=h2.resolve_left hc.2;obtain⟨k,rfl⟩:∃k',k=k'+1:=⟨k-1,by omega⟩;replace h1:=h1.trans (pE hc);have h3:((lkM s.fo x).getD Fo.z).inn=0∨∃m d,deepO s.fo m ((lkM s.fo x).getD Fo.z).inn=some d∧d+1≤k:=by
   cases hl:lkM s.fo x with
   |none=>exact .inl rfl
   |some f=>
    refine .inr ?_;cases m with
    |zero=>rw[deepO,hl]at hm;simp at hm
    |succ m=>
     rw[deepO,hl]at hm;simp only[N1]at hm;obtain⟨d1,h4,rfl⟩:=hm;exact⟨m,d1,h4,by omega⟩
  have hF:=iy G s x hnj;generalize (lkM s.fo x).getD Fo.z=f at*;have F:=F3 F b1 b2;refine wk F ?_;refine kq F (hF) ?_;refine hK2 _ _ _ (M0 ⟨k,f.inn,j++[.row 99 3 0 [f.av]],rfl,rfl,?_,?_,?_,h1,h3⟩) (by omega);all_goals try exact zZz F
 ·replace h1:=h1.trans (gJ hc k);by_cases hxu:x=u
  ·have b1:(x !=u)=false:=(by simp[hxu]);have F:=F2 F b1;refine wk F ?_;refine ee hQ F ?_;exact az hn (.bool _) ⟨by rw[h1];congr 1,rfl⟩
  ·have b1:(x !=u)=true:=(by simp[hxu]);have b2:(x !=0)=false:=(by simp;exact Decidable.byContradiction fun e=>hc ⟨hxu,e⟩);have F:=F3 F b1 b2;refine wk F ?_;refine ee hQ F ?_;exact az hn (.bool _) ⟨by rw[h1];congr 1,rfl⟩
def undF(s:PS)(id:Int):List Int:=if s.within id then(s.tell.fe.filter fun f=>decide (id=0)||insF s.fo id 8 f.inn).map (·.id)else []
def twB(Y:Heap)(n:Nat)(s:PS)(a:Nat)(b1 b2:Blk):Heap:=so (ov Y a [b1,b2]) n s
section
variable {Y:Heap} {n a:Nat} {s:PS} {b1 b2:Blk}
theorem dJ(hn:n+9≤a)(hm:a+2≤Y.length):twB Y n s a b1 b2=ov (so Y n s) a [b1,b2]:=p8 (bs:=s.bl n) (cs:=[b1,b2]) (by show n+9≤Y.length;omega) hm (.inl hn)
theorem bZ(hm:a+2≤Y.length):(ov Y a [b1,b2]).length=Y.length:=bj hm
@[go_sem] theorem zy(hn:n+9≤a)(hm:a+2≤Y.length)(j:Heap):twB Y n s a b1 b2++j=twB (Y++j) n s a b1 b2:=by
 unfold twB;rw[aQ (by rw[bZ hm];omega),ig hm]
@[go_sem] theorem zz(hn:n+9≤a)(hm:a+2≤Y.length):(twB Y n s a b1 b2).length=Y.length:=by
 unfold twB;rw[aM (by rw[bZ hm];omega),bZ hm]
@[go_sem] theorem zA(hn:n+9≤a)(hm:a+2≤Y.length){p:Nat}(u:Nat)(hp:a+2≤p):getRow (twB Y n s a b1 b2) p u=getRow Y p u:=by
 unfold twB;rw[bM (by rw[bZ hm];omega) u (by omega),fQ u hm (.inr hp)]
@[go_sem] theorem zB(hn:n+9≤a)(hm:a+2≤Y.length){p:Nat}(b:Blk)(hp:a+2≤p):(twB Y n s a b1 b2).set p b=twB (Y.set p b) n s a b1 b2:=by
 unfold twB;rw[pc (by rw[bZ hm];omega) b (by omega),ie b hm (.inr hp)]
@[go_sem] theorem Kk(hn:n+9≤a)(hm:a+2≤Y.length)(u:Nat):getRow (twB Y n s a b1 b2) a u=getRow [b1] 0 u:=by
 rw[dJ hn hm];unfold getRow;rw[za (by rw[aM (by omega)];exact hm) (by simp)];rfl
@[go_sem] theorem C7(hn:n+9≤a)(hm:a+2≤Y.length)(u:Nat):getRow (twB Y n s a b1 b2) (a+1) u=getRow [b2] 0 u:=by
 rw[dJ hn hm,jT u (by rw[aM (by omega)];exact hm) (by simp)];rfl
@[go_sem] theorem C8(hn:n+9≤a)(hm:a+2≤Y.length):mapAt (twB Y n s a b1 b2) a=mapAt [b1] 0:=by
 rw[dJ hn hm,p9 (by rw[aM (by omega)];exact hm) (by simp)];rfl
@[go_sem] theorem C9(hn:n+9≤a)(hm:a+2≤Y.length)(b:Blk):(twB Y n s a b1 b2).set a b=twB Y n s a b b2:=by
 rw[dJ hn hm,dJ hn hm,kZ b (by rw[aM (by omega)];exact hm) (by simp)];rfl
@[go_sem] theorem Kl(hn:n+9≤a)(hm:a+2≤Y.length)(b:Blk):(twB Y n s a b1 b2).set (a+1) b=twB Y n s a b1 b:=by
 rw[dJ hn hm,dJ hn hm,bH b (by rw[aM (by omega)];exact hm) (by simp)];rfl
theorem kB{j:Heap}{c1 c2:Blk}{R:AVal→Heap→Prop}{r:AVal}(hn:n+9≤a)(hm:a+2≤Y.length)(h1:CloB Y.length c1)(h2:CloB Y.length c2)(hc:Clo Y.length r)(hR:R r (twB Y n s a c1 c2)):Fin (twB Y n s a b1 b2) (twB (Y++j) n s a c1 c2) R r:=by
 rw[dJ hn hm,dJ hn (by simp;omega), ← aQ (by omega)];rw[dJ hn hm]at hR;have hl:(so Y n s).length=Y.length:=aM (by omega);exact ii (by rw[hl];exact hm) rfl (fun b hb=>by
  rw[hl];simp only[N2,P7,or_false]at hb;rcases hb with rfl|rfl
  ·exact h1
  ·exact h2) (by rw[hl];exact hc) hR
theorem pF{c1 c2:Blk}{R:AVal→Heap→Prop}{r:AVal}(hn:n+9≤a)(hm:a+2≤Y.length)(h1:CloB Y.length c1)(h2:CloB Y.length c2)(hc:Clo Y.length r)(hR:R r (twB Y n s a c1 c2)):Fin (twB Y n s a b1 b2) (twB Y n s a c1 c2) R r:=by
 have:=kB (j:=[]) (b1:=b1) (b2:=b2) hn hm h1 h2 hc hR
 rwa [O2]at this
end
def u1(q k:Nat):Blk:=.row 42 1 0 [.hs (q+1) k 0 k true]
def u2(l:List Int):Blk:=.row 3 1 l.length (l.map iA)
theorem rL(s:PS)(f:Fe)(l:List Int)(hl:l.length≤100000){Y:Heap}{n q:Nat}(hn:n+9≤q)(hm:q+2≤Y.length):Sat (CT G) 168 [f.av,.hp q 0 0 0] (twB Y n s q (u1 q l.length) (u2 l)) (fun r h'=>r=.tup []∧h'=twB Y n s q (u1 q (l.length+1)) (u2 (l++[f.id]))):=by
 have r0:getRow [u1 q l.length] 0 0=some (42,1,[.hs (q+1) l.length 0 l.length true]):=rfl;have r1:getRow [u2 l] 0 l.length=some (3,1,l.map iA):=by simp[getRow,u2]
 have hml:(l.map iA).length=l.length:=L8 ..;have e2:u2 (l++[f.id])=.row 3 1 (l.length+1) (l.map iA++[.int .i64 f.id]):=by simp[u2,iA]
 have e1:u1 q (l.length+1)=.row 42 1 0 [.hs (q+1) (l.length+1) 0 (l.length+1) true]:=rfl;have hm1:∀j:Heap,q+2≤(Y++j).length:=fun j=>by simp;omega
 have F:=F7 r0 r1 hml hm hn hm1 @ax;refine sb [] Tryz.func168 ?_;intro Q hQ;refine wk F ?_;refine aq F ?_;try refine sq F ?_
 refine wk F ?_;refine ee hQ F ?_;rw[e1,e2];refine kB hn hm ?_ ?_ (.tup _ (by simp)) ⟨rfl,rfl⟩
 ·intro c hc;simp only[Y6]at hc;subst hc;exact .hs _ _ _ _ _ (by omega)
 ·intro c hc;rw[T4,N0,Y6]at hc;rcases hc with⟨y,_,rfl⟩|rfl<;>exact .int _ _
theorem tP{q k N:Nat}(h:q+2≤N):CloB N (u1 q k):=fun c hc=>by
 simp only[Y6]at hc;subst hc;exact .hs _ _ _ _ _ (by omega)
theorem tQ(l:List Int)(N:Nat):CloB N (u2 l):=fun c hc=>by
 obtain⟨y,_,rfl⟩:=N0.1 hc;exact .int _ _
theorem oN(s:PS)(h:s.Inv)(id:Int){Y:Heap}{n q:Nat}(hn:n+9≤q)(hm:q+2≤Y.length):Sat (CT G) 167 [.hp (n+8) 0 0 0,.int .i64 id,.fn (.func 168) [] [.hp q 0 0 0]] (twB Y n s q (u1 q 0) (u2 [])) (fun r h'=>r=.tup []∧h'=twB Y n s q (u1 q (undF s id).length) (u2 (undF s id))):=by
 have hcf:Sat (CT G) 204 [.hp (n+8) 0 0 0,.int .i64 id] (twB Y n s q (u1 q 0) (u2 [])) (fun r h'=>r=.bool (s.within id)∧h'=twB Y n s q (u1 q 0) (u2 [])):=nF G s id (by rw[bZ hm];omega);unfold undF;cases hw:s.within id with
 |false=>
  rw[hw]at hcf;refine sb [] Tryz.func167 ?_;intro Q hQ;refine wk trivial ?_;refine kq trivial (hcf) ?_;refine ee hQ trivial ?_;exact pF hn hm (tP hm) (tQ _ _) (.tup _ (by simp)) ⟨rfl,rfl⟩
 |true=>
  rw[hw]at hcf;have hT:Sat (CT G) 24 [.hp (n+8) 0 0 0] (twB Y n s q (u1 q 0) (u2 [])) (fun r h'=>r=s.tell.av∧h'=twB Y n s q (u1 q 0) (u2 [])):=jY G s h.toOk (by rw[bZ hm];omega);have hfl:s.tell.fe.length≤100000:=by have:=aJ (z:=Fe.z) s.fe;have:=h.l2;show(valsM Fe.z s.fe).length≤_;omega
  rw[St.av_eq]at hT;generalize s.tell.fe=fe at*;rw[M1 rfl];have hfm:(fe.map Fe.av).length=fe.length:=L8 ..;have F:=hfm;refine sb [] Tryz.func167 ?_;intro Q hQ;refine wk F ?_;refine kq F (hcf) ?_;refine kq F (hT) ?_;refine lm (fun nL tL hL=>∃(k:Nat) (j:Heap),fe.length-k=nL∧twB (Y++j) n s q (u1 q ((fe.take k).filter fun f=>decide (id=0)||insF s.fo id 8 f.inn).length) (u2 (((fe.take k).filter fun f=>decide (id=0)||insF s.fo id 8 f.inn).map (·.id)))=hL∧tL 16=.int .i64 k∧k≤fe.length) ((fun(k:Nat) (j:Heap)=>(fe.length-k:Nat)) (0) ([])) ?_ ?_
  ·refine M0 ⟨0,[],rfl,by rw[O2];rfl,?_,by omega⟩;all_goals try exact zZz F
  rintro _ s2 h' ⟨k,j,rfl,rfl,e16,hk⟩ K2 hK2;simp only[ai,ak,Nat.reduceEqDiff, ↓reduceIte]at e16;have F:=F2 F e16;refine wk F ?_;have hmj:q+2≤(Y++j).length:=by simp;omega
  refine cq F (fun c1=>?_) (fun c1=>?_)<;>(try exact c1.elim)<;>(refine wk F ?_)
  ·have c2:k<fe.length:=(by omega);obtain⟨f,hf,hfm1⟩:=ac c2;have ht:(fe.take (k+1)).filter (fun f=>decide (id=0)||insF s.fo id 8 f.inn)=(fe.take k).filter (fun f=>decide (id=0)||insF s.fo id 8 f.inn)++if (decide (id=0)||insF s.fo id 8 f.inn)=true then [f]else []:=by
    rw[O3,hf,U7];congr 1
    simp only[Option.toList_some,S8,List.filter_nil]
   have hl:((fe.take k).filter fun f=>decide (id=0)||insF s.fo id 8 f.inn).length≤100000:=by
    refine R1 (X8 _ _) ?_;rw[N9];omega
   have hin:∀X:Heap,q+2≤X.length→∀b1 b2,Sat (CT G) 205 [.hp (n+8) 0 0 0,.int .i64 f.inn,.int .i64 id] (twB X n s q b1 b2) (fun r h'=>r=.bool (insF s.fo id 8 f.inn)∧h'=twB X n s q b1 b2):=fun X hX b1 b2=>oM G s h f.inn id (by rw[bZ hX];omega)
   have hus:=fun(X:Heap) (hX:q+2≤X.length)=>rL G s f (((fe.take k).filter fun f=>decide (id=0)||insF s.fo id 8 f.inn).map (·.id)) (by rw[L8];exact hl) (Y:=X) hn hX
   simp only[L8]at hus;generalize ((fe.take k).filter fun f=>decide (id=0)||insF s.fo id 8 f.inn)=fl at*;have hx:∀g:Fe,q+2≤((Y++j)++[Blk.row 86 4 0 [g.av]]).length:=fun g=>by simp;omega
   cases hi:(id==0)with
   |true=>
    have hp:(decide (id=0)||insF s.fo id 8 f.inn)=true:=(by rw[show decide (id=0)=(id==0)from rfl,hi];rfl);rw[hp,M1 rfl]at ht;have F:=F5 F c2 hf hi @ax;(try refine sq F ?_);refine wk F ?_;refine kq F (hus _ (by simp;omega)) ?_;refine hK2 _ _ _ (M0 ⟨k+1,j++[.row 86 4 0 [f.av]],rfl,by rw[ht,Q5,M5];rfl,?_,by omega⟩) (by omega);all_goals try exact zZz F
   |false=>
    have hi0:decide (id=0)=false:=(by rw[show decide (id=0)=(id==0)from rfl,hi]);have hp2:(decide (id=0)||insF s.fo id 8 f.inn)=insF s.fo id 8 f.inn:=(by rw[hi0,Bool.false_or]);rw[hp2]at ht;cases hp:insF s.fo id 8 f.inn with
    |true=>
     rw[hp]at hin;rw[hp,M1 rfl]at ht;have F:=F5 F c2 hf hi @ax;(try refine sq F ?_);refine wk F ?_;refine kq F (hin _ (by simp;omega) _ _) ?_;refine kq F (hus _ (by simp;omega)) ?_;refine hK2 _ _ _ (M0 ⟨k+1,j++[.row 86 4 0 [f.av]],rfl,by rw[ht,Q5,M5];rfl,?_,by omega⟩) (by omega);all_goals try exact zZz F
    |false=>
     rw[hp]at hin;rw[hp,L5 (by simp),O2]at ht;have F:=F5 F c2 hf hi @ax;(try refine sq F ?_);refine wk F ?_;refine kq F (hin _ (by simp;omega) _ _) ?_;refine hK2 _ _ _ (M0 ⟨k+1,j++[.row 86 4 0 [f.av]],rfl,by rw[ht];rfl,?_,by omega⟩) (by omega);all_goals try exact zZz F
  ·rw[M4 (by omega)];refine ee hQ F ?_;exact kB hn hm (tP hm) (tQ _ _) (.tup _ (by simp)) ⟨rfl,rfl⟩
theorem rM(s:PS)(h:s.Inv)(id:Int){H:Heap}{n:Nat}(hn:n+9≤H.length):Sat (CT G) 137 [.hp (n+8) 0 0 0,.int .i64 id] (so H n s) (fun r h'=>r=.sl 1 ((undF s id).map iA)∧h'=so H n s):=by
 have hm:H.length+2≤(H++[u1 H.length 0,u2 []]).length:=by simp
 have hu:=oN G s h id (Y:=H++[u1 H.length 0,u2 []]) hn hm;have e:∀k l,twB (H++[u1 H.length 0,u2 []]) n s H.length (u1 H.length k) (u2 l)=so (H++[u1 H.length k,u2 l]) n s:=fun k l=>by
  unfold twB;congr 1
  have:=jS H [u1 H.length k,u2 l] [];rw[O2]at this;rw[this];unfold ov;simp
 rw[e,e]at hu;generalize undF s id=l at*;have hq:so (H++[u1 H.length 0,u2 []]) n s=so H n s++[.row 42 1 0 [.hs (H.length+1) 0 0 0 true],.row 3 1 0 []]:=by
  rw[aQ hn];rfl
 have hq2:so (H++[u1 H.length l.length,u2 l]) n s=so H n s++[.row 42 1 0 [.hs (H.length+1) l.length 0 l.length true],.row 3 1 l.length (l.map iA)]:=by
  rw[aQ hn];rfl
 have hl:=aM (s:=s) hn;have hne:abin Tryz.prog (so H n s++[Blk.row 42 1 0 [.hs (H.length+1) 0 0 0 true],.row 3 1 0 []]) .neq 31 (.hp (n+8) 0 0 0) (.nil (.pointer none))=some (.bool true):=by
  rw[aQ hn];exact zc (by simp;omega)
 rw[hq,hq2]at hu;have hz:Frz (so H n s++[Blk.row 42 1 0 [.hs (H.length+1) l.length 0 l.length true],.row 3 1 l.length (l.map iA)]) (so H n s).length (.hs (H.length+1) l.length 0 l.length true) (.sl 1 (l.map iA)):=by
  refine za1 (by omega) (e:=3) (by rw[aV _ (by rw[hl])];simp[getRow]) (by simp) (fun r hr=>?_) (fun r hr=>?_)
  ·obtain⟨x,_,rfl⟩:=N0.1 hr;exact .int _ _
  ·obtain⟨x,_,rfl⟩:=N0.1 hr;intro c hc;simp[AVal.cells,iA]at hc;subst hc;rfl
 generalize so H n s=X at*;have F:=F3 hl hne @ax;refine sb [.tmp 4] Tryz.func137 ?_;intro Q hQ;(repeat (first|refine w1 (fun K hK=>?_)|refine w2 ?_|refine w3 ?_| ((first|refine w4 ?_|refine wD ?_|refine w5 ?_|refine w6 ?_|refine w7 ?_);try refine sq F ?_)| (refine w8 ?_;refine sq F ?_;refine w9 ?_)))
 refine hK _ _ (M0 ?_);clear hK K;(repeat (first|refine w1 (fun K hK=>?_)|refine w2 ?_|refine w3 ?_| ((first|refine w4 ?_|refine wD ?_|refine w5 ?_|refine w6 ?_|refine w7 ?_);try refine sq F ?_)| (refine w8 ?_;refine sq F ?_;refine w9 ?_)))
 refine hK _ _ ⟨_,_,Weak.virtCell1 (p:=H.length) (v:=0) 3 1 (by omega) (by simp(disch:=first|omega| (simp only[go_sem, ↓reduceIte,seval];first|done|omega)|fail) only[go_sem, ↓reduceIte,seval,F];rfl),?_⟩;clear hK K;refine wk F ?_;refine kq F (hu) ?_;refine ee hQ F ?_;exact Fin.frz hz ⟨rfl,rfl⟩
theorem tR(l:List Int)(x:Int)(hl:l.length≤1048576)(h:Heap):Sat (CT G) 104 [.sl 1 (l.map iA),.int .i64 x] h (fun r h'=>r=.bool (l.any fun a=>decide (x=a))∧h'=h):=by
 have hi:Sat (CT G) 136 [.sl 1 (l.map iA),.int .i64 x] h (fun r h'=>r=.int .i64 (ixQ (fun a=>decide (x=a)) l)∧h'=h):=by
  have hml:(l.map iA).length=l.length:=L8 ..;have F:=hml;refine sb [.tmp 4] Tryz.func136 ?_;intro Q hQ;refine wk F ?_;refine lm (fun nL tL hL=>∃(k:Nat),l.length-k=nL∧h=hL∧tL 8=.int .i64 k∧k≤l.length∧(∀a∈l.take k,decide (x=a)=false)) ((fun(k:Nat)=>(l.length-k:Nat)) (0)) ?_ ?_
  ·refine M0 ⟨0,rfl,aw,?_,Y4 _,by simp⟩;all_goals try exact zZz F
  rintro _ s2 h' ⟨k,rfl,rfl,e8,hk,hp⟩ K2 hK2;simp only[ai,ak,Nat.reduceEqDiff, ↓reduceIte]at e8;have F:=F2 F e8;refine wk F ?_;refine cq F (fun c1=>?_) (fun c1=>?_)<;>(try exact c1.elim)<;>(refine wk F ?_)
  ·have c2:k<l.length:=(by omega);obtain⟨y,hy,hym⟩:=ac c2;cases he:(x==y)with
   |true=>
    have e:=kz (p:=fun a=>decide (x=a)) hy he hp;have F:=F4 F hy c2 he;(try refine sq F ?_);refine wk F ?_;refine ee hQ F ?_;exact O5 (.int _ _) ⟨by rw[e],rfl⟩
   |false=>
    have hp1:=er (p:=fun a=>decide (x=a)) hy he hp;have F:=F4 F hy c2 he;(try refine sq F ?_);refine wk F ?_;refine hK2 _ _ _ (M0 ⟨k+1,rfl,aw,?_,by omega,hp1⟩) (by omega);all_goals try exact zZz F
  ·have e:=kA (p:=fun a=>decide (x=a)) (l:=l) fun a ha=>hp a (by rwa [M4 (by omega)])
   refine ee hQ F ?_;exact O5 (.int _ _) ⟨by rw[e],rfl⟩
 rw[← iO];refine sb [.tmp 4] Tryz.func104 ?_;intro Q hQ;refine wk trivial ?_;refine kq trivial (hi) ?_;refine ee hQ trivial ?_;exact O5 (.bool _) ⟨rfl,rfl⟩
theorem tS(l:List Bs)(x:Bs)(hl:l.length≤1048576)(h:Heap):Sat (CT G) 106 [.sl 1 (l.map .str),.str x] h (fun r h'=>r=.bool (l.any fun a=>decide (x=a))∧h'=h):=by
 have hi:Sat (CT G) 138 [.sl 1 (l.map .str),.str x] h (fun r h'=>r=.int .i64 (ixQ (fun a=>decide (x=a)) l)∧h'=h):=by
  have hml:(l.map AVal.str).length=l.length:=L8 ..;have F:=hml;refine sb [.tmp 4] Tryz.func138 ?_;intro Q hQ;refine wk F ?_;refine lm (fun nL tL hL=>∃(k:Nat),l.length-k=nL∧h=hL∧tL 8=.int .i64 k∧k≤l.length∧(∀a∈l.take k,decide (x=a)=false)) ((fun(k:Nat)=>(l.length-k:Nat)) (0)) ?_ ?_
  ·refine M0 ⟨0,rfl,aw,?_,Y4 _,by simp⟩;all_goals try exact zZz F
  rintro _ s2 h' ⟨k,rfl,rfl,e8,hk,hp⟩ K2 hK2;simp only[ai,ak,Nat.reduceEqDiff, ↓reduceIte]at e8;have F:=F2 F e8;refine wk F ?_;refine cq F (fun c1=>?_) (fun c1=>?_)<;>(try exact c1.elim)<;>(refine wk F ?_)
  ·have c2:k<l.length:=(by omega);obtain⟨y,hy,hym⟩:=ac c2;cases he:(x==y)with
   |true=>
    have hx:decide (x=y)=true:=(by simpa using he);have e:=kz (p:=fun a=>decide (x=a)) hy hx hp;have F:=F4 F hy c2 he;(try refine sq F ?_);refine wk F ?_;refine ee hQ F ?_;exact O5 (.int _ _) ⟨by rw[e],rfl⟩
   |false=>
    have hx:decide (x=y)=false:=(by simpa using he);have hp1:=er (p:=fun a=>decide (x=a)) hy hx hp;have F:=F4 F hy c2 he;(try refine sq F ?_);refine wk F ?_;refine hK2 _ _ _ (M0 ⟨k+1,rfl,aw,?_,by omega,hp1⟩) (by omega);all_goals try exact zZz F
  ·have e:=kA (p:=fun a=>decide (x=a)) (l:=l) fun a ha=>hp a (by rwa [M4 (by omega)])
   refine ee hQ F ?_;exact O5 (.int _ _) ⟨by rw[e],rfl⟩
 rw[← iO];refine sb [.tmp 4] Tryz.func106 ?_;intro Q hQ;refine wk trivial ?_;refine kq trivial (hi) ?_;refine ee hQ trivial ?_;exact O5 (.bool _) ⟨rfl,rfl⟩
end
section
attribute [local irreducible] WP WPl WPix Sat
theorem dW{α:Type}{l:List α}{k:Nat}{y:α}(f:α→Bool)(h:l[k]? =some y):(l.take (k+1)).filter f=(l.take k).filter f++if f y=true then [y]else []:=by
 rw[O3,h,U7];congr 1
 cases hf:f y<;>simp[hf]
def undR(x:St)(id:Int):List Int:=if (decide (id=0)||(fnd (·.id) x.fo id).isSome)=true then(x.fe.filter fun f=>x.within f.inn id).map (·.id)else []
variable (G:Nat→Option (List AVal))
theorem rN(x:St)(hx:x.Up)(id:Int)(h:Heap):Sat (CT G) 146 [x.av,.int .i64 id] h (fun r h'=>r=.sl 1 ((undR x id).map iA)∧h'=h):=by
 have hel:(x.fe.map Fe.av).length=x.fe.length:=L8 ..;have hl2:=hx.l2;have hF:=fun h=>oK G x (by have:=hx.l1;omega) id h
 have fin:∀(w:Nat) (out:List Int),Fin h (h++[.row 40 9 0 [x.av],.row 3 1 w (out.map iA)]) (fun r h'=>r=.sl 1 (out.map iA)∧h'=h) (.hs (h.length+1) w 0 out.length true):=fun w out=>by
  have hgo:getRow (h++[Blk.row 40 9 0 [x.av],Blk.row 3 1 w (out.map iA)]) (h.length+1) w=some (3,1,out.map iA):=by rw[aV _ rfl];simp[getRow]
  refine Fin.frz (za1 (by simp) hgo (by simp) (fun r hr=>?_) (fun r hr=>?_)) ⟨rfl,rfl⟩
  ·obtain⟨a,_,rfl⟩:=N0.1 hr;exact .int _ _
  ·obtain⟨a,_,rfl⟩:=N0.1 hr;intro c hc;simp[AVal.cells,iA]at hc;subst hc;rfl
 unfold undR;generalize (decide (id=0)||(fnd (·.id) x.fo id).isSome)=b at*;cases b with
 |false=>
  rw[L5 (by simp)];by_cases c0:0<x.fe.length
  ·have F:=hel;refine sb [.tmp 4] Tryz.func146 ?_;intro Q hQ;refine wk F ?_;refine lm (fun nL tL hL=>∃(i:Nat),0=nL∧h++[.row 40 9 0 [x.av],.row 3 1 0 []]=hL∧tL 1=.int .i64 id∧tL 2=.hp h.length 0 0 0∧tL 5=.hs (h.length+1) 0 0 0 true∧tL 6=.int .i64 i∧i<x.fe.length) ((fun(i:Nat)=>(0:Nat)) (0)) ?_ ?_
   ·refine⟨_,_,Z2 5 3 1 (by simp) (by omega) (by exact zq F),⟨0,rfl,aw,?_,?_,?_,?_,c0⟩⟩;all_goals try exact zZz F
   rintro _ s2 h' ⟨i,rfl,rfl,e1,e2,e5,e6,hi⟩ K2 hK2;simp only[ai,ak,Nat.reduceEqDiff, ↓reduceIte]at e1 e2 e5 e6;have F:=F5 F e1 e2 e5 e6;have d0:=O4 hi;have F:=F2 F d0;(try refine sq F ?_);refine wk F ?_;refine kq F (hF _) ?_;refine ee hQ F ?_;exact fin 0 []
  ·have F:=hel;refine sb [.tmp 4] Tryz.func146 ?_;intro Q hQ;refine wk F ?_;refine lm (fun nL tL hL=>∃(i:Nat),0=nL∧h++[.row 40 9 0 [x.av],.row 3 1 0 []]=hL∧tL 1=.int .i64 id∧tL 2=.hp h.length 0 0 0∧tL 5=.hs (h.length+1) 0 0 0 true∧tL 6=.int .i64 i∧¬i<x.fe.length) ((fun(i:Nat)=>(0:Nat)) (0)) ?_ ?_
   ·refine⟨_,_,Z2 5 3 1 (by simp) (by omega) (by exact zq F),⟨0,rfl,aw,?_,?_,?_,?_,c0⟩⟩;all_goals try exact zZz F
   rintro _ s2 h' ⟨i,rfl,rfl,e1,e2,e5,e6,hi⟩ K2 hK2;simp only[ai,ak,Nat.reduceEqDiff, ↓reduceIte]at e1 e2 e5 e6;have F:=F5 F e1 e2 e5 e6;have d0:=O0 hi;have F:=F2 F d0;(try refine sq F ?_);refine wk F ?_;refine ee hQ F ?_;exact fin 0 []
 |true=>
  rw[M1 rfl];have F:=hel;refine sb [.tmp 4] Tryz.func146 ?_;intro Q hQ;refine wk F ?_;refine lm (fun nL tL hL=>∃(i w:Nat) (out:List Int),x.fe.length-i=nL∧h++[.row 40 9 0 [x.av],.row 3 1 w (out.map iA)]=hL∧tL 1=.int .i64 id∧tL 2=.hp h.length 0 0 0∧tL 5=.hs (h.length+1) w 0 out.length true∧tL 6=.int .i64 i∧i≤x.fe.length∧out.length≤i∧out=((x.fe.take i).filter fun f=>x.within f.inn id).map (·.id)) ((fun(i w:Nat) (out:List Int)=>(x.fe.length-i:Nat)) (0) (0) ([])) ?_ ?_
  ·refine⟨_,_,Z2 5 3 1 (by simp) (by omega) (by exact zq F),⟨0,0,[],rfl,aw,?_,?_,?_,?_,by omega,by simp,by simp⟩⟩;all_goals try exact zZz F
  rintro _ s2 h' ⟨i,w,out,rfl,rfl,e1,e2,e5,e6,hi,hol,hop⟩ K2 hK2;simp only[ai,ak,Nat.reduceEqDiff, ↓reduceIte]at e1 e2 e5 e6;have F:=F5 F e1 e2 e5 e6;have hml:(out.map iA).length=out.length:=L8 ..;have F:=F2 F hml;by_cases c1:i<x.fe.length
  ·obtain⟨y,hy,hym⟩:=ac c1;have hW:=fun h=>oD G x hx y.inn id (hx.fe y hym) h
   have hft:=dW (fun f=>x.within f.inn id) hy;have d1:=O4 c1;generalize x.within y.inn id=b at*;cases b with
   |true=>
    rw[M1 rfl]at hft;have F:=F4 F hy d1 @ax;(try refine sq F ?_);refine wk F ?_;refine kq F (hF _) ?_;refine au (hW _) ?_;(try refine sq F ?_);refine wk F ?_;refine aq F ?_;(try refine sq F ?_);refine wk F ?_;refine hK2 _ _ _ (M0 ⟨i+1,w+1,out++[y.id],rfl,by simp[iA,St.av],?_,?_,?_,?_,by omega,by simp;omega,by rw[hft,Q5, ← hop];rfl⟩) (by omega);all_goals try exact zZz F
   |false=>
    rw[L5 (by simp),O2]at hft;have F:=F3 F hy d1;(try refine sq F ?_);refine wk F ?_;refine kq F (hF _) ?_;refine au (hW _) ?_;(try refine sq F ?_);refine wk F ?_;refine hK2 _ _ _ (M0 ⟨i+1,w,out,rfl,aw,?_,?_,?_,?_,by omega,by omega,by rw[hft, ← hop]⟩) (by omega);all_goals try exact zZz F
  ·have d1:=O0 c1;rw[M4 (by omega)]at hop;have F:=F2 F d1;(try refine sq F ?_);refine wk F ?_;refine ee hQ F ?_;rw[← hop];exact fin w out
theorem wH{fo:ML Int Fo}{u:Int}(hu:u≠0):∀(k:Nat) (x:Int) (l:List Int) (m:Nat),chS fo k x=some l→k≤m→insF fo u m x=decide (u∈l):=by
 intro k;induction k with
 |zero=>
  intro x l m h _;unfold chS at h;split at h
  ·cases h;rename_i h0;subst h0;rw[gJ (by omega)];simp;omega
  ·cases h
 |succ k ih=>
  intro x l m h hm;unfold chS at h;split at h
  ·cases h;rename_i h0;subst h0;rw[gJ (by omega)];simp;omega
  ·rename_i h0;obtain⟨l',h1,rfl⟩:=N1.1 h;obtain⟨m',rfl⟩:∃m',m=m'+1:=⟨m-1,by omega⟩;by_cases hx:x=u
   ·rw[gJ (by omega),hx];simp
   ·rw[pE ⟨hx,h0⟩];have e:((lkM fo x).getD Fo.z).inn=((lkM fo x).map (·.inn)).getD 0:=(by cases lkM fo x<;>rfl);rw[e,ih _ _ m' h1 (by omega)];simp[Ne.symm hx]
variable {s:PS}
theorem zC(h:s.Inv)(id:Int):undR s.tell id=undF s id:=by
 unfold undR undF PS.within;rw[h.fndFo];by_cases c:(decide (id=0)||(lkM s.fo id).isSome)=true
 ·rw[M1 c,M1 c];congr 1
  refine V6 fun f hf=>?_
  obtain⟨k,hk⟩:=aN hf;obtain⟨l,hl,_,_⟩:=h.chs (p:=f.inn) (h.u2 k f hk);unfold St.within;by_cases h0:id=0
  ·simp[h0]
  ·rw[wH h0 7 f.inn l 8 hl (by omega)];simp only[h0,decide_false,za2,Bool.false_or];exact decide_eq_decide.2 (xX h h0 (by omega) hl)
 ·rw[L5 c,L5 c]
end
section
attribute [local irreducible] WP WPl WPix Sat
def leafF(s:PS)(t:It)(op num:Int)(tx:Bs):Bool:=
 if op=1 then true else if op=6 then decide (t.feed=num)else if op=7 then(undF s num).any (fun a=>decide (t.feed=a))
 else if op=8 then t.tags.any (fun a=>decide (tx=a))else if op=9 then !t.read else if op=10 then t.star
 else if op=11 then hasF t.title tx else if op=12 then bgnF t.title tx else if op=13 then decide (t.date<num)else if op=14 then decide (t.date≥num)
 else if op=15 then decide (t.date>IntKind.i64.wrap (s.clock-IntKind.i64.wrap (num*86400)))else false
namespace Qy
mutual
def bel(s:PS)(t:It):Qy→Bool
 | .mk op num tx ks=>if op=3 then belA s t ks else if op=4 then belO s t ks else if op=5 then !belO s t ks else leafF s t op num tx
def belA(s:PS)(t:It):List Qy→Bool
 | []=>true
 |k::ks=>k.bel s t&&belA s t ks
def belO(s:PS)(t:It):List Qy→Bool
 | []=>false
 |k::ks=>k.bel s t||belO s t ks
end
theorem belA_eq(s:PS)(t:It):∀ks:List Qy,belA s t ks= !ks.any fun k=> !k.bel s t
 | []=>rfl
 |k::ks=>by rw[belA,belA_eq s t ks,List.any_cons,Bool.not_or,Bool.not_not]
theorem belO_eq(s:PS)(t:It):∀ks:List Qy,belO s t ks=ks.any fun k=>k.bel s t
 | []=>rfl
 |k::ks=>by rw[belO,belO_eq s t ks,List.any_cons]
end Qy
def lsA(l:List Int):AVal:=.sl 1 (l.map iA)
def am(M:ML Int (List Int))(c:Nat):Blk:=.mp (encM iA lsA M) c
def ar(n a:Nat):Blk:=.row 160 2 0 [.agg [.hp (n+8) 0 0 0,.hm a]]
def Gd(s:PS)(x:ML Int (List Int)×Nat):Prop:=WFM x.1 x.2∧∀id l,lkM x.1 id=some l→l=undF s id
def sa(Y:Heap)(n:Nat)(s:PS)(a:Nat)(x:ML Int (List Int)×Nat):Heap:=twB Y n s a (am x.1 x.2) (ar n a)
theorem tT(M:ML Int (List Int))(c N:Nat):CloB N (am M c):=bR (fun _=>.int _ _) (fun l=>Clo.sl _ _ fun x hx=>by obtain⟨y,_,rfl⟩:=N0.1 hx;exact .int _ _) M
theorem tU{n a N:Nat}(hn:n+9≤a)(h:a+2≤N):CloB N (ar n a):=fun c hc=>by
 simp only[Y6]at hc;subst hc;exact .agg _ fun x hx=>by
  simp only[N2,P7,or_false]at hx;rcases hx with rfl|rfl
  ·exact .hp _ _ _ _ (by omega)
  ·exact .hm _ (by omega)
section
variable {Y:Heap} {n a:Nat} {s:PS} {x:ML Int (List Int)×Nat}
@[go_sem] theorem Jz(hn:n+9≤a)(hm:a+2≤Y.length)(j:Heap):sa Y n s a x++j=sa (Y++j) n s a x:=zy hn hm j
@[go_sem] theorem JA(hn:n+9≤a)(hm:a+2≤Y.length):(sa Y n s a x).length=Y.length:=zz hn hm
@[go_sem] theorem JB(hn:n+9≤a)(hm:a+2≤Y.length){p:Nat}(u:Nat)(hp:a+2≤p):getRow (sa Y n s a x) p u=getRow Y p u:=zA hn hm u hp
@[go_sem] theorem JC(hn:n+9≤a)(hm:a+2≤Y.length){p:Nat}(b:Blk)(hp:a+2≤p):(sa Y n s a x).set p b=sa (Y.set p b) n s a x:=zB hn hm b hp
@[go_sem] theorem Km(hn:n+9≤a)(hm:a+2≤Y.length):getRow (sa Y n s a x) (a+1) 0=some (160,2,[.agg [.hp (n+8) 0 0 0,.hm a]]):=C7 hn hm 0
@[go_sem] theorem Kn(hn:n+9≤a)(hm:a+2≤Y.length):mapAt (sa Y n s a x) a=some (encM iA lsA x.1,x.2):=C8 hn hm
@[go_sem] theorem Ko(hn:n+9≤a)(hm:a+2≤Y.length)(M:ML Int (List Int))(c:Nat):(sa Y n s a x).set a (.mp (encM iA lsA M) c)=sa Y n s a (M,c):=C9 hn hm _
@[go_sem] theorem J3(n:Nat)(l:List AVal):softA (.sl n l)=.sl n l:=(rfl)
@[go_sem] theorem Kq(c:Nat)(l:ML Int (List Int))(x:Int)(ls:List Int):putM (encM iA lsA l) c (.int .i64 x) (.sl 1 (ls.map iA)) (ixM l x)=.mp (encM iA lsA (upM l c x ls)) (ckM l c x):=jg c l x ls rfl
theorem cw{j:Heap}{y:ML Int (List Int)×Nat}{R:AVal→Heap→Prop}{r:AVal}(hn:n+9≤a)(hm:a+2≤Y.length)(hc:∀N,Clo N r)(hR:R r (sa Y n s a y)):Fin (sa Y n s a x) (sa (Y++j) n s a y) R r:=
 kB hn hm (tT _ _ _) (tU hn hm) (hc _) hR
theorem iP(hn:n+9≤a)(hm:a+2≤Y.length):FinW fun x=>sa Y n s a x:=fun x y r R hc hR=>pF hn hm (tT _ _ _) (tU hn hm) (hc _) hR
end
variable (G:Nat→Option (List AVal))
theorem oO(s:PS)(h:s.Inv)(id:Int){Y:Heap}{n a:Nat}(hn:n+9≤a)(hm:a+2≤Y.length)(x:ML Int (List Int)×Nat)(hx:Gd s x):
  Sat (CT G) 105 [.hp (a+1) 0 0 0,.int .i64 id] (sa Y n s a x) (fun r h'=>r=.sl 1 ((undF s id).map iA)∧∃y,Gd s y∧h'=sa Y n s a y):=by
 obtain⟨M,c⟩:=x;have hci:∀(l:List Int) N,Clo N (.sl 1 (l.map iA)):=fun l N=>Clo.sl _ _ fun x hx=>by obtain⟨y,_,rfl⟩:=N0.1 hx;exact .int _ _
 cases hl:lkM M id with
 |some l=>
  have:=hx.2 id l hl;subst this;have F:=hl;refine sb [.tmp 4] Tryz.func105 ?_;intro Q hQ;refine wk F ?_;refine ee hQ F ?_;exact iP hn hm _ _ _ _ (hci _) ⟨rfl,_,hx,rfl⟩
 |none=>
  have hU:Sat (CT G) 137 [.hp (n+8) 0 0 0,.int .i64 id] (sa Y n s a (M,c)) (fun r h'=>r=.sl 1 ((undF s id).map iA)∧h'=sa Y n s a (M,c)):=rM G s h id (by rw[bZ hm];omega);have hx2:Gd s (upM M c id (undF s id),ckM M c id):=⟨hx.1.up _ _,fun k l hk=>by
   rcases aP hk with⟨rfl,rfl⟩| ⟨_,hk⟩
   ·rfl
   ·exact hx.2 k l hk⟩
  generalize undF s id=u at*;have hns:(none:Option (List Int)).isSome=false:=rfl;have F:=F2 hl hns;refine sb [.tmp 4] Tryz.func105 ?_;intro Q hQ;refine wk F ?_;refine kq F (hU) ?_;refine ee hQ F ?_;refine iP hn hm (M,c) (upM M c id u,ckM M c id) _ _ (hci _) ?_;exact⟨rfl,_,hx2,rfl⟩
end
section
attribute [local irreducible] WP WPl WPix Sat
variable (G:Nat→Option (List AVal))
def kdF(q:Qy):Bool:=if q.op=3∨q.op=4 then decide (2≤q.kds.length)&&decide (q.kds.length≤16)else if q.op=5 then decide (q.kds.length=1)else decide (q.kds.length=0)
theorem tV(q:Qy)(h:Heap)(_hz:q.sz≤1048576):Sat (CT G) 99 [q.av] h (fun r h'=>r=.bool (kdF q)∧h'=h):=by
 obtain⟨op,num,s,ks⟩:=q;have hml:(ks.map Qy.av).length=ks.length:=L8 ..;rw[Qy.av_eq];show Sat _ _ _ _ (fun r h'=>r=.bool (if op=3∨op=4 then decide (2≤ks.length)&&decide (ks.length≤16)else if op=5 then decide (ks.length=1)else decide (ks.length=0))∧h'=h);by_cases k1:op=3∨op=4
 ·rw[M1 k1];rcases k1 with k1|k1
  ·subst k1;have F:=hml;refine sb [.tmp 2] Tryz.func99 ?_;intro Q hQ;refine wk F ?_;repeat' (first
    | (exfalso;omega)
    | (refine cq F (fun hx=>?_) (fun hx=>?_)<;>(try exact hx.elim)<;>(refine wk F ?_))
    | ((first|refine gq F (fun hx=>?_) (fun hx=>?_)|refine pq F (fun hx=>?_) (fun hx=>?_))<;>(try exact hx.elim)<;>(try refine sq F ?_)<;>(refine wk F ?_)))
   all_goals (
    refine ee hQ F ?_;exact L6 (.bool _) ⟨by congr 1;rw[O9];simp;try omega,rfl⟩)
  ·subst k1;have F:=hml;refine sb [.tmp 2] Tryz.func99 ?_;intro Q hQ;refine wk F ?_;repeat' (first
    | (exfalso;omega)
    | (refine cq F (fun hx=>?_) (fun hx=>?_)<;>(try exact hx.elim)<;>(refine wk F ?_))
    | ((first|refine gq F (fun hx=>?_) (fun hx=>?_)|refine pq F (fun hx=>?_) (fun hx=>?_))<;>(try exact hx.elim)<;>(try refine sq F ?_)<;>(refine wk F ?_)))
   all_goals (
    refine ee hQ F ?_;exact L6 (.bool _) ⟨by congr 1;rw[O9];simp;try omega,rfl⟩)
 rw[L5 k1];have d1:(op==3)=false:=by simp;omega
 have d2:(op==4)=false:=by simp;omega
 by_cases k2:op=5
 ·subst k2;rw[M1 rfl];have F:=F3 hml d1 d2;refine sb [.tmp 2] Tryz.func99 ?_;intro Q hQ;refine wk F ?_;repeat' (first
   | (exfalso;omega)
   | (refine cq F (fun hx=>?_) (fun hx=>?_)<;>(try exact hx.elim)<;>(refine wk F ?_))
   | ((first|refine gq F (fun hx=>?_) (fun hx=>?_)|refine pq F (fun hx=>?_) (fun hx=>?_))<;>(try exact hx.elim)<;>(try refine sq F ?_)<;>(refine wk F ?_)))
  all_goals (
   refine ee hQ F ?_;exact L6 (.bool _) ⟨by congr 1;rw[O9];simp;try omega,rfl⟩)
 rw[L5 k2];have d3:(op==5)=false:=by simp[k2]
 have F:=F4 hml d1 d2 d3;refine sb [.tmp 2] Tryz.func99 ?_;intro Q hQ;refine wk F ?_;repeat' (first
  | (exfalso;omega)
  | (refine cq F (fun hx=>?_) (fun hx=>?_)<;>(try exact hx.elim)<;>(refine wk F ?_))
  | ((first|refine gq F (fun hx=>?_) (fun hx=>?_)|refine pq F (fun hx=>?_) (fun hx=>?_))<;>(try exact hx.elim)<;>(try refine sq F ?_)<;>(refine wk F ?_)))
 all_goals (
  refine ee hQ F ?_;exact L6 (.bool _) ⟨by congr 1;rw[O9];simp;try omega,rfl⟩)
def txF(q:Qy):Bool:=if q.op=8 then L0.tag q.txt else if q.op=11∨q.op=12 then isF q.txt else decide (q.txt=[])
theorem tW(q:Qy)(h:Heap)(hz:q.sz≤100000):Sat (CT G) 98 [q.av] h (fun r h'=>r=.bool (txF q)∧h'=h):=by
 obtain⟨op,num,s,ks⟩:=q;rw[Qy.sz]at hz;have hT:=fun h=>nw G s h
 have hW:=fun h=>pm G s (by omega) h
 rw[Qy.av_eq];show Sat _ _ _ _ (fun r h'=>r=.bool (if op=8 then L0.tag s else if op=11∨op=12 then isF s else decide (s=[]))∧h'=h);generalize L0.tag s=e1 at*;generalize isF s=e2 at*;by_cases k1:op=8
 ·rw[M1 k1];subst k1;refine sb [.tmp 2] Tryz.func98 ?_;intro Q hQ;refine wk trivial ?_;refine kq trivial (hT _) ?_;refine ee hQ trivial ?_;exact L6 (.bool _) ⟨rfl,rfl⟩
 rw[L5 k1];have d1:(op==8)=false:=by simp[k1]
 by_cases k2:op=11
 ·subst k2;refine sb [.tmp 2] Tryz.func98 ?_;intro Q hQ;refine wk trivial ?_;refine kq trivial (hW _) ?_;refine ee hQ trivial ?_;exact L6 (.bool _) ⟨rfl,rfl⟩
 by_cases k3:op=12
 ·subst k3;refine sb [.tmp 2] Tryz.func98 ?_;intro Q hQ;refine wk trivial ?_;refine kq trivial (hW _) ?_;refine ee hQ trivial ?_;exact L6 (.bool _) ⟨rfl,rfl⟩
 rw[L5 (by omega)];have d2:(op==11)=false:=by simp[k2]
 have d3:(op==12)=false:=by simp[k3]
 have F:=F3 d1 d2 d3;refine sb [.tmp 2] Tryz.func98 ?_;intro Q hQ;refine wk F ?_;refine ee hQ F ?_;exact L6 (.bool _) ⟨by congr 1;rw[O9];simp,rfl⟩
def nuF(op n:Int):Bool:=if op=6 then decide (1≤n)&&decide (n≤1048576)else if op=7 then decide (0≤n)&&decide (n≤1048576)else if op=13∨op=14 then momF n else if op=15 then decide (1≤n)&&decide (n≤36500)else decide (n=0)
theorem oP(q:Qy)(h:Heap):Sat (CT G) 97 [q.av] h (fun r h'=>r=.bool (nuF q.op q.num)∧h'=h):=by
 obtain⟨op,num,s,ks⟩:=q;rw[Qy.av_eq];show Sat _ _ _ _ (fun r h'=>r=.bool (nuF op num)∧h'=h);unfold nuF;by_cases k1:op=6
 ·rw[M1 k1];subst k1;refine sb [.tmp 2] Tryz.func97 ?_;intro Q hQ;refine wk trivial ?_;repeat' (first
   | (exfalso;omega)
   | (refine cq trivial (fun hx=>?_) (fun hx=>?_)<;>(try exact hx.elim)<;>(refine wk trivial ?_))
   | ((first|refine gq trivial (fun hx=>?_) (fun hx=>?_)|refine pq trivial (fun hx=>?_) (fun hx=>?_))<;>(try exact hx.elim)<;>(try refine sq trivial ?_)<;>(refine wk trivial ?_)))
  all_goals (
   refine ee hQ trivial ?_;exact L6 (.bool _) ⟨by congr 1;rw[O9];simp;try omega,rfl⟩)
 rw[L5 k1];have d1:(op==6)=false:=by simp[k1]
 by_cases k2:op=7
 ·rw[M1 k2];subst k2;refine sb [.tmp 2] Tryz.func97 ?_;intro Q hQ;refine wk trivial ?_;repeat' (first
   | (exfalso;omega)
   | (refine cq trivial (fun hx=>?_) (fun hx=>?_)<;>(try exact hx.elim)<;>(refine wk trivial ?_))
   | ((first|refine gq trivial (fun hx=>?_) (fun hx=>?_)|refine pq trivial (fun hx=>?_) (fun hx=>?_))<;>(try exact hx.elim)<;>(try refine sq trivial ?_)<;>(refine wk trivial ?_)))
  all_goals (
   refine ee hQ trivial ?_;exact L6 (.bool _) ⟨by congr 1;rw[O9];simp;try omega,rfl⟩)
 rw[L5 k2];have d2:(op==7)=false:=by simp[k2]
 by_cases k3:op=13∨op=14
 ·rw[M1 k3];have hd:=pn G num;rcases k3 with k3|k3
  ·subst k3;refine sb [.tmp 2] Tryz.func97 ?_;intro Q hQ;refine wk trivial ?_;refine(hd _).mono ?_;rintro r h' ⟨⟨_,_,_,_,_,_,rfl⟩,rfl⟩;cases hm:momF num
   ·have F:=hm;(try refine sq F ?_);refine wk F ?_;refine ee hQ F ?_;exact L6 (.bool _) ⟨rfl,rfl⟩
   ·have F:=hm;(try refine sq F ?_);refine wk F ?_;refine ee hQ F ?_;exact L6 (.bool _) ⟨rfl,rfl⟩
  ·subst k3;refine sb [.tmp 2] Tryz.func97 ?_;intro Q hQ;refine wk trivial ?_;refine(hd _).mono ?_;rintro r h' ⟨⟨_,_,_,_,_,_,rfl⟩,rfl⟩;cases hm:momF num
   ·have F:=hm;(try refine sq F ?_);refine wk F ?_;refine ee hQ F ?_;exact L6 (.bool _) ⟨rfl,rfl⟩
   ·have F:=hm;(try refine sq F ?_);refine wk F ?_;refine ee hQ F ?_;exact L6 (.bool _) ⟨rfl,rfl⟩
 rw[L5 k3];have d3:(op==13)=false:=by simp;omega
 have d4:(op==14)=false:=by simp;omega
 by_cases k4:op=15
 ·rw[M1 k4];subst k4;refine sb [.tmp 2] Tryz.func97 ?_;intro Q hQ;refine wk trivial ?_;repeat' (first
   | (exfalso;omega)
   | (refine cq trivial (fun hx=>?_) (fun hx=>?_)<;>(try exact hx.elim)<;>(refine wk trivial ?_))
   | ((first|refine gq trivial (fun hx=>?_) (fun hx=>?_)|refine pq trivial (fun hx=>?_) (fun hx=>?_))<;>(try exact hx.elim)<;>(try refine sq trivial ?_)<;>(refine wk trivial ?_)))
  all_goals (
   refine ee hQ trivial ?_;exact L6 (.bool _) ⟨by congr 1;rw[O9];simp;try omega,rfl⟩)
 rw[L5 k4];have d5:(op==15)=false:=by simp[k4]
 have F:=F5 d1 d2 d3 d4 d5;refine sb [.tmp 2] Tryz.func97 ?_;intro Q hQ;refine wk F ?_;refine ee hQ F ?_;exact L6 (.bool _) ⟨by congr 1,rfl⟩
theorem tX(t:Bs)(ht:t.length≤20000)(h:Heap):Sat (CT G) 111 [.str t] h (fun r h'=>r=.bool (isF t)∧h'=h):=by
 have hwl:(wordsF t).length≤1000000:=by
  have h1:=gH (runesF (foldS t)) [] [];have h2:=cE (foldS t).length (foldS t) (M2 _);have h3:=cW t;rw[← gG]at h1;simp only[O7]at h1;omega
 have hS:=lT G (wordsF t) [t] hwl (by simp);refine sb [.tmp 2] Tryz.func111 ?_;intro Q hQ;refine wk trivial ?_;refine kq trivial (cG G t (by omega) _) ?_;refine kq trivial (hS _) ?_;refine ee hQ trivial ?_;exact O5 (.bool _) ⟨by simp[isF],rfl⟩
def kdG(op:Int)(n:Nat):Bool:=if op=3∨op=4 then decide (2≤n)&&decide (n≤16)else if op=5 then decide (n=1)else decide (n=0)
def txG(op:Int)(t:Bs):Bool:=if op=8 then L0.tag t else if op=11∨op=12 then isF t else decide (t=[])
def pnG(op num:Int)(t:Bs)(n:Nat):Bool:=decide (1≤op)&&decide (op≤15)&&nuF op num&&txG op t&&kdG op n
theorem Ga(op num:Int)(s:Bs)(ks:List AVal)(h:Heap)(ho:op=1∨op=2∨op=3∨op=4∨op=5∨op=6∨op=7∨op=9∨op=10∨op=15):Sat (CT G) 67 [.agg [.int .i64 op,.int .i64 num,.str s,.sl 4 ks]] h (fun r h'=>r=.bool (pnG op num s ks.length)∧h'=h):=by
 rcases ho with rfl|rfl|rfl|rfl|rfl|rfl|rfl|rfl|rfl|rfl;all_goals (
  refine sb [.tmp 2] Tryz.func67 ?_;intro Q hQ;refine wk trivial ?_;repeat' (first
   | (exfalso;omega)
   | (refine cq trivial (fun hx=>?_) (fun hx=>?_)<;>(try exact hx.elim)<;>(refine wk trivial ?_))
   | ((first|refine gq trivial (fun hx=>?_) (fun hx=>?_)|refine pq trivial (fun hx=>?_) (fun hx=>?_))<;>(try exact hx.elim)<;>(try refine sq trivial ?_)<;>(refine wk trivial ?_)))
  all_goals (
   refine ee hQ trivial ?_;exact L6 (.bool _) ⟨by congr 1;rw[O9];simp[pnG,nuF,txG,kdG, *];try omega,rfl⟩))
theorem Gb(num:Int)(s:Bs)(ks:List AVal)(h:Heap):Sat (CT G) 67 [.agg [.int .i64 8,.int .i64 num,.str s,.sl 4 ks]] h (fun r h'=>r=.bool (pnG 8 num s ks.length)∧h'=h):=by
 have hT:=fun h=>nC G s h
 have hp:pnG 8 num s ks.length=(decide (num=0)&&(L0.tag s&&decide (ks.length=0))):=by
  unfold pnG nuF txG kdG;simp[Bool.and_assoc]
 rw[hp];generalize L0.tag s=e at*;by_cases hn:num=0
 ·subst hn;cases e;all_goals (
   refine sb [.tmp 2] Tryz.func67 ?_;intro Q hQ;refine wk trivial ?_;repeat' (first
    | (exfalso;omega)
    | (refine kq trivial (hT _) ?_)
    | (refine cq trivial (fun hx=>?_) (fun hx=>?_)<;>(try exact hx.elim)<;>(refine wk trivial ?_))
    | ((first|refine gq trivial (fun hx=>?_) (fun hx=>?_)|refine pq trivial (fun hx=>?_) (fun hx=>?_))<;>(try exact hx.elim)<;>(try refine sq trivial ?_)<;>(refine wk trivial ?_)))
   all_goals (
    refine ee hQ trivial ?_;exact L6 (.bool _) ⟨by first|rfl| (congr 1;rw[O9];simp),rfl⟩))
 ·have b2:(num==0)=false:=by simpa using hn
  rw[show decide (num=0)=false by simpa using hn,zc9];have F:=b2;refine sb [.tmp 2] Tryz.func67 ?_;intro Q hQ;refine wk F ?_;repeat' (first
   | (exfalso;omega)
   | (refine cq F (fun hx=>?_) (fun hx=>?_)<;>(try exact hx.elim)<;>(refine wk F ?_))
   | ((first|refine gq F (fun hx=>?_) (fun hx=>?_)|refine pq F (fun hx=>?_) (fun hx=>?_))<;>(try exact hx.elim)<;>(try refine sq F ?_)<;>(refine wk F ?_)))
  all_goals (
   refine ee hQ F ?_;exact L6 (.bool _) ⟨rfl,rfl⟩)
theorem Gc(op num:Int)(s:Bs)(hs:s.length≤20000)(ks:List AVal)(h:Heap)(ho:op=11∨op=12):Sat (CT G) 67 [.agg [.int .i64 op,.int .i64 num,.str s,.sl 4 ks]] h (fun r h'=>r=.bool (pnG op num s ks.length)∧h'=h):=by
 have hT:=fun h=>tX G s hs h
 have hp:pnG op num s ks.length=(decide (num=0)&&(isF s&&decide (ks.length=0))):=by
  unfold pnG nuF txG kdG;rcases ho with rfl|rfl<;>simp[Bool.and_assoc]
 rw[hp];generalize isF s=e at*;by_cases hn:num=0
 ·subst hn;rcases ho with rfl|rfl<;>cases e
  all_goals (
   refine sb [.tmp 2] Tryz.func67 ?_;intro Q hQ;refine wk trivial ?_;repeat' (first
    | (exfalso;omega)
    | (refine kq trivial (hT _) ?_)
    | (refine cq trivial (fun hx=>?_) (fun hx=>?_)<;>(try exact hx.elim)<;>(refine wk trivial ?_))
    | ((first|refine gq trivial (fun hx=>?_) (fun hx=>?_)|refine pq trivial (fun hx=>?_) (fun hx=>?_))<;>(try exact hx.elim)<;>(try refine sq trivial ?_)<;>(refine wk trivial ?_)))
   all_goals (
    refine ee hQ trivial ?_;exact L6 (.bool _) ⟨by first|rfl| (congr 1;rw[O9];simp),rfl⟩))
 ·have b2:(num==0)=false:=by simpa using hn
  rw[show decide (num=0)=false by simpa using hn,zc9];have F:=b2;rcases ho with rfl|rfl;all_goals (
   refine sb [.tmp 2] Tryz.func67 ?_;intro Q hQ;refine wk F ?_;repeat' (first
    | (exfalso;omega)
    | (refine cq F (fun hx=>?_) (fun hx=>?_)<;>(try exact hx.elim)<;>(refine wk F ?_))
    | ((first|refine gq F (fun hx=>?_) (fun hx=>?_)|refine pq F (fun hx=>?_) (fun hx=>?_))<;>(try exact hx.elim)<;>(try refine sq F ?_)<;>(refine wk F ?_)))
   all_goals (
    refine ee hQ F ?_;exact L6 (.bool _) ⟨rfl,rfl⟩))
theorem Ge(hc:GClo (CT G))(op num:Int)(s:Bs)(ks:List AVal)(h:Heap)(ho:op=13∨op=14):Sat (CT G) 67 [.agg [.int .i64 op,.int .i64 num,.str s,.sl 4 ks]] h (fun r h'=>r=.bool (pnG op num s ks.length)∧h'=h):=by
 have hT:=fun h=>nB G hc num h
 have hp:pnG op num s ks.length=(momF num&&(decide (s=[])&&decide (ks.length=0))):=by
  unfold pnG nuF txG kdG;rcases ho with rfl|rfl<;>simp[Bool.and_assoc]
 rw[hp];generalize momF num=e at*;rcases ho with rfl|rfl<;>cases e
 all_goals (
  refine sb [.tmp 2] Tryz.func67 ?_;intro Q hQ;refine wk trivial ?_;repeat' (first
   | (exfalso;omega)
   | (refine kq trivial (hT _) ?_)
   | (refine cq trivial (fun hx=>?_) (fun hx=>?_)<;>(try exact hx.elim)<;>(refine wk trivial ?_))
   | ((first|refine gq trivial (fun hx=>?_) (fun hx=>?_)|refine pq trivial (fun hx=>?_) (fun hx=>?_))<;>(try exact hx.elim)<;>(try refine sq trivial ?_)<;>(refine wk trivial ?_)))
  all_goals (
   refine ee hQ trivial ?_;exact L6 (.bool _) ⟨by first|rfl| (congr 1;rw[O9];simp[*];try omega),rfl⟩))
theorem Gf(op num:Int)(s:Bs)(ks:List AVal)(h:Heap)(ho:¬(1≤op∧op≤15)):Sat (CT G) 67 [.agg [.int .i64 op,.int .i64 num,.str s,.sl 4 ks]] h (fun r h'=>r=.bool false∧h'=h):=by
 have q:∀k:Int,1≤k→k≤15→(op==k)=false:=fun k h1 h2=>by simp;omega
 have q1:=q 1 (by omega) (by omega);have q2:=q 2 (by omega) (by omega);have q3:=q 3 (by omega) (by omega);have q4:=q 4 (by omega) (by omega);have q5:=q 5 (by omega) (by omega);have q6:=q 6 (by omega) (by omega);have q7:=q 7 (by omega) (by omega);have q8:=q 8 (by omega) (by omega);have q9:=q 9 (by omega) (by omega);have q10:=q 10 (by omega) (by omega);have q11:=q 11 (by omega) (by omega);have q12:=q 12 (by omega) (by omega);have q13:=q 13 (by omega) (by omega);have q14:=q 14 (by omega) (by omega);have q15:=q 15 (by omega) (by omega);clear q;have F:=F2 (F9 q1 q2 q3 q4 q5 q6 q7 q8 q9) (F6 q10 q11 q12 q13 q14 q15);refine sb [.tmp 2] Tryz.func67 ?_;intro Q hQ;refine wk F ?_;repeat' (first
  | (exfalso;omega)
  | (refine cq F (fun hx=>?_) (fun hx=>?_)<;>(try exact hx.elim)<;>(refine wk F ?_))
  | ((first|refine gq F (fun hx=>?_) (fun hx=>?_)|refine pq F (fun hx=>?_) (fun hx=>?_))<;>(try exact hx.elim)<;>(try refine sq F ?_)<;>(refine wk F ?_)))
 all_goals (
  refine ee hQ F ?_;exact L6 (.bool _) ⟨rfl,rfl⟩)
def pnF(q:Qy):Bool:=pnG q.op q.num q.txt q.kds.length
theorem xY(hc:GClo (CT G))(q:Qy)(h:Heap)(hz:q.sz≤20000):Sat (CT G) 67 [q.av] h (fun r h'=>r=.bool (pnF q)∧h'=h):=by
 obtain⟨op,num,s,ks⟩:=q;rw[Qy.sz]at hz;have e:pnF (.mk op num s ks)=pnG op num s (ks.map Qy.av).length:=by rw[L8];rfl
 rw[e,Qy.av_eq];by_cases ho:1≤op∧op≤15
 ·by_cases k8:op=8
  ·subst k8;exact Gb G num s _ h
  by_cases k11:op=11∨op=12
  ·exact Gc G op num s (by omega) _ h k11
  by_cases k13:op=13∨op=14
  ·exact Ge G hc op num s _ h k13
  exact Ga G op num s _ h (by omega)
 ·have:=Gf G op num s (ks.map Qy.av) h ho;have e2:pnG op num s (ks.map Qy.av).length=false:=by
   unfold pnG;have:(decide (1≤op)&&decide (op≤15))=false:=by rw[Bool.and_eq_false_iff,decide_eq_false_iff_not,decide_eq_false_iff_not];omega
   rw[this];rfl
  rw[e2];exact this
def Qy.ok(q:Qy):Bool:=decide (q.dep 1≤12)&&(decide (q.nod≤64)&&q.all pnF)
theorem zD:plP (fun q=>nuF q.op q.num) txF kdF=pnF:=by
 funext ⟨op,num,s,ks⟩
 show(!(decide (op<1)||(decide (op>15)||(!nuF op num||(!txG op s|| !kdG op ks.length)))))=(decide (1≤op)&&decide (op≤15)&&nuF op num&&txG op s&&kdG op ks.length)
 generalize nuF op num=a;generalize txG op s=b;generalize kdG op ks.length=c;rw[O9];simp only[P0,zb8,decide_eq_false_iff_not,L7,M7,Bool.not_eq_false'];constructor
 ·rintro⟨h1,h2,h3,h4,h5⟩;exact⟨⟨⟨⟨by omega,by omega⟩,h3⟩,h4⟩,h5⟩
 ·rintro⟨⟨⟨⟨h1,h2⟩,h3⟩,h4⟩,h5⟩;exact⟨by omega,by omega,h3,h4,h5⟩
theorem xZ(q:Qy)(h:Heap)(hz:q.sz≤100000):Sat (CT G) 60 [q.av] h (fun r h'=>r=.bool (q.all pnF)∧h'=h):=by
 rw[← zD];exact rI G _ _ _ 100000 (by omega) (fun q h _=>oP G q h) (fun q h hz=>tW G q h hz) (fun q h hz=>tV G q h (by omega)) q h hz
theorem oQ(hc:GClo (CT G))(q:Qy)(h:Heap)(hz:q.mx≤9223372036854775807)(h2:q.dep 1≤12→q.sz≤20000):Sat (CT G) 12 [q.av] h (fun r h'=>r=.bool q.ok∧h'=h):=by
 have k1:=fun h=>rG G q h hz
 have k2:=fun hq:q.sz≤20000=>fun h=>wx G q h (R1 hq (by omega))
 have k3:=fun hq:q.sz≤20000=>fun h=>wA G pnF 20000 (by omega) (xY G hc) q h hq
 unfold Qy.ok;generalize q.all pnF=e3 at*;generalize q.dep 1=e1 at*;generalize q.nod=e2 at*;generalize q.sz=z at*;obtain⟨yo,yn,ys,yl⟩:=q;rw[Qy.av_eq]at*;by_cases b1:e1≤12
 ·have d1:decide (e1≤12)=true:=by simp[b1]
  have k3:=k3 (h2 b1);have k2:=k2 (h2 b1);by_cases b2:e2≤64
  ·have d2:decide (e2≤64)=true:=(by simp[b2]);have F:=F2 d1 d2;refine sb [.tmp 2] Tryz.func12 ?_;intro Q hQ;refine wk F ?_;refine kq F (k1 _) ?_;refine kq F (k2 _) ?_;refine kq F (k3 _) ?_;refine ee hQ F ?_;exact L6 (.bool _) ⟨by simp,rfl⟩
  ·have d2:decide (e2≤64)=false:=(by simp;omega);have F:=F2 d1 d2;refine sb [.tmp 2] Tryz.func12 ?_;intro Q hQ;refine wk F ?_;refine kq F (k1 _) ?_;refine kq F (k2 _) ?_;refine ee hQ F ?_;exact L6 (.bool _) ⟨by simp,rfl⟩
 ·have d1:decide (e1≤12)=false:=by simp;omega
  have F:=d1;refine sb [.tmp 2] Tryz.func12 ?_;intro Q hQ;refine wk F ?_;refine kq F (k1 _) ?_;refine ee hQ F ?_;exact L6 (.bool _) ⟨by simp,rfl⟩
theorem cH(q:Qy)(h:Heap)(hz:q.mx≤9223372036854775807)(h2:q.dep 1≤12→q.sz≤20000):Sat (CT G) 27 [q.av] h (fun r h'=>r=.int .i64 (if q.ok then 0 else 250)∧h'=h):=by
 have k1:=fun h=>rH G q h hz
 have k2:=fun hq:q.sz≤20000=>fun h=>wz G q h (R1 hq (by omega))
 have k3:=fun hq:q.sz≤20000=>fun h=>xZ G q h (R1 hq (by omega))
 unfold Qy.ok;generalize q.all pnF=e3 at*;generalize q.dep 1=e1 at*;generalize q.nod=e2 at*;generalize q.sz=z at*;obtain⟨yo,yn,ys,yl⟩:=q;rw[Qy.av_eq]at*;by_cases b1:e1≤12
 ·have d0:decide (e1≤12)=true:=by simp[b1]
  have d1:decide (e1>12)=false:=by simp[b1]
  have k3:=k3 (h2 b1);have k2:=k2 (h2 b1);rw[d0,T6];by_cases b2:e2≤64
  ·have d2:decide (e2>64)=false:=(by simp[b2]);have d3:decide (e2≤64)=true:=(by simp[b2]);rw[d3,T6];have F:=F2 d1 d2;cases e3 with
   |true=>
    refine sb [.tmp 2] Tryz.func27 ?_;intro Q hQ;refine wk F ?_;refine kq F (k1 _) ?_;refine kq F (k2 _) ?_;refine kq F (k3 _) ?_;refine ee hQ F ?_;exact L6 (.int _ _) ⟨rfl,rfl⟩
   |false=>
    refine sb [.tmp 2] Tryz.func27 ?_;intro Q hQ;refine wk F ?_;refine kq F (k1 _) ?_;refine kq F (k2 _) ?_;refine kq F (k3 _) ?_;refine ee hQ F ?_;exact L6 (.int _ _) ⟨rfl,rfl⟩
  ·have d2:decide (e2>64)=true:=(by simp;omega);have d3:decide (e2≤64)=false:=(by simp;omega);rw[d3];have F:=F2 d1 d2;refine sb [.tmp 2] Tryz.func27 ?_;intro Q hQ;refine wk F ?_;refine kq F (k1 _) ?_;refine kq F (k2 _) ?_;refine ee hQ F ?_;exact L6 (.int _ _) ⟨rfl,rfl⟩
 ·have d1:decide (e1>12)=true:=by simp;omega
  have d0:decide (e1≤12)=false:=by simp;omega
  rw[d0];have F:=d1;refine sb [.tmp 2] Tryz.func27 ?_;intro Q hQ;refine wk F ?_;refine kq F (k1 _) ?_;refine ee hQ F ?_;exact L6 (.int _ _) ⟨rfl,rfl⟩
end
section
attribute [local irreducible] WP WPl WPix Sat
def BelR(G:Nat→Option (List AVal))(s:PS)(n a:Nat)(t:It)(q:Qy):Prop:=∀(Y:Heap) (x:ML Int (List Int)×Nat),a+2≤Y.length→Gd s x→
 Sat (CT G) 65 [.hp (a+1) 0 0 0,q.av,t.av] (sa Y n s a x) (fun r h'=>r=.bool (q.bel s t)∧∃y,Gd s y∧h'=sa Y n s a y)
variable (G:Nat→Option (List AVal))
section
variable {s:PS} {n a:Nat} {t:It}
theorem jy{k:Qy}(ih:BelR G s n a t k)(hn:n+9≤a){Y:Heap}(hm:a+2≤Y.length){p1 p2:Nat}(l1:a+2≤p1)(l2:a+2≤p2)
  (h1:getRow Y p1 0=some (123,1,[.hp (a+1) 0 0 0]))(h2:getRow Y p2 0=some (69,9,[t.av]))(x:ML Int (List Int)×Nat)(hx:Gd s x):
  Sat (CT G) 102 ([]++[k.av]++[.hp p1 0 0 0,.hp p2 0 0 0]) (sa Y n s a x) (fun r h'=>r=.bool (k.bel s t)∧∃y,Gd s y∧h'=sa Y n s a y):=by
 have q1:=aT h1;have q2:=aT h2;have hm1:∀j:Heap,a+2≤(Y++j).length:=fun j=>by simp;omega
 have hc:=fun Y hm=>ih Y x hm hx
 generalize k.bel s t=b at*;obtain⟨ko,kn,ks,kl⟩:=k;rw[Qy.av_eq]at*;have F:=iZ hm hn hm1 h1 h2 q1 q2 l1 l2 @ax;refine sb [.tmp 4] Tryz.func102 ?_;intro Q hQ;refine wk F ?_;refine(hc _ (by simp;omega)).mono ?_;rintro r h' ⟨rfl,y,hy,rfl⟩;try refine sq F ?_
 refine wk F ?_;refine ee hQ F ?_;exact cw hn hm (fun N=>.bool _) ⟨rfl,y,hy,rfl⟩
theorem wI{k:Qy}(ih:BelR G s n a t k)(hn:n+9≤a){Y:Heap}(hm:a+2≤Y.length){p1 p2 p3:Nat}(l1:a+2≤p1)(l2:a+2≤p2)(l3:a+2≤p3)
  (h1:getRow Y p1 0=some (123,1,[.hp (a+1) 0 0 0]))(h2:getRow Y p2 0=some (69,9,[t.av]))
  (h3:getRow Y p3 0=some (29,1,[.fn (.func 102) [] [.hp p1 0 0 0,.hp p2 0 0 0]]))(x:ML Int (List Int)×Nat)(hx:Gd s x):
  Sat (CT G) 103 ([]++[k.av]++[.hp p3 0 0 0]) (sa Y n s a x) (fun r h'=>r=.bool (!k.bel s t)∧∃y,Gd s y∧h'=sa Y n s a y):=by
 have q1:=aT h1;have q2:=aT h2;have q3:=aT h3;have hm1:∀j:Heap,a+2≤(Y++j).length:=fun j=>by simp;omega
 have hc:=fun j:Heap=>jy G ih hn (Y:=Y++j) (hm1 j) l1 l2 (by rw[aU _ q1];exact h1) (by rw[aU _ q2];exact h2) x hx
 generalize k.bel s t=b at*;clear ih;obtain⟨ko,kn,ks,kl⟩:=k;rw[Qy.av_eq]at*;have F:=F7 hm hn hm1 h3 q3 l3 @ax;refine sb [.tmp 3] Tryz.func103 ?_;intro Q hQ;refine wk F ?_;refine(hc _).mono ?_;rintro r h' ⟨rfl,y,hy,rfl⟩;try refine sq F ?_
 refine wk F ?_;refine ee hQ F ?_;exact cw hn hm (fun N=>.bool _) ⟨rfl,y,hy,rfl⟩
end
theorem zE{s:PS}{t:It}{op num:Int}{tx:Bs}{ks:List Qy}(h3:op≠3)(h4:op≠4)(h5:op≠5):(Qy.mk op num tx ks).bel s t=leafF s t op num tx:=by
 rw[Qy.bel,L5 h3,L5 h4,L5 h5]
theorem y8(s:PS)(hI:s.Inv)(t:It)(ht:t.title.length≤256)(htg:t.tags.length≤1048576){n a:Nat}(hn:n+9≤a):∀q:Qy,q.sz≤20000→q.all pnF=true→BelR G s n a t q:=by
 refine Qy.ind fun op num tx ks ih=>?_
 intro hz hp Y x hm hx;have hkl:=Qy.szL_len ks;have hkm:∀k∈ks,k.sz≤Qy.szL ks:=fun k hk=>Qy.szL_mem hk
 rw[Qy.sz]at hz;rw[Qy.all,L7,Qy.allL_eq,P8]at hp;obtain⟨hpk,hpn⟩:=hp;have ihk:∀k∈ks,BelR G s n a t k:=fun k hk=>ih k hk (by have:=hkm k hk;omega) (hpk k hk)
 have hpg:pnG op num tx ks.length=true:=hpn;have hml:(ks.map Qy.av).length=ks.length:=L8 ..;have hm1:∀j:Heap,a+2≤(Y++j).length:=fun j=>by simp;omega
 have hra:1≤op∧op≤15:=by
  unfold pnG at hpg;simp only[L7,M7]at hpg;exact hpg.1.1.1
 rw[Qy.av_eq];have F:=F5 hm hn hm1 hml @ax;by_cases k3:op=3
 ·subst k3;have hb:(Qy.mk 3 num tx ks).bel s t= !ks.any fun k=> !k.bel s t:=by rw[Qy.bel,M1 rfl,Qy.belA_eq]
  rw[hb];have hany:=ix G (iP (s:=s) hn (hm1 [.row 123 1 0 [.hp (a+1) 0 0 0],.row 25 4 0 [.agg [.int .i64 3,.int .i64 num,.str tx,.sl 4 (ks.map Qy.av)]],.row 69 9 0 [t.av],.row 29 1 0 [.fn (.func 102) [] [.hp Y.length 0 0 0,.hp (Y.length+2) 0 0 0]]]))
   (fun k=> !k.bel s t) 103 [.hp (Y.length+3) 0 0 0] ks (by omega) (fun k hk x hx=>wI G (ihk k hk) hn (hm1 _) (p1:=Y.length) (p2:=Y.length+2) (by omega) (by omega) (by omega) (by rw[aH _ rfl];rfl) (by rw[aV _ rfl];rfl) (by rw[aV _ rfl];rfl) x hx) x hx
  generalize (ks.any fun k=> !k.bel s t)=b at*;refine sb [.tmp 6] Tryz.func65 ?_;intro Q hQ;refine wk F ?_;refine hany.mono ?_;rintro r h' ⟨rfl,y,hy,rfl⟩;try refine sq F ?_
  refine wk F ?_;refine ee hQ F ?_;exact cw hn hm (fun N=>.bool _) ⟨rfl,y,hy,rfl⟩
 by_cases k4:op=4
 ·subst k4;have hb:(Qy.mk 4 num tx ks).bel s t=ks.any fun k=>k.bel s t:=by rw[Qy.bel,L5 (by decide),M1 rfl,Qy.belO_eq]
  rw[hb];have hany:=ix G (iP (s:=s) hn (hm1 [.row 123 1 0 [.hp (a+1) 0 0 0],.row 25 4 0 [.agg [.int .i64 4,.int .i64 num,.str tx,.sl 4 (ks.map Qy.av)]],.row 69 9 0 [t.av],.row 29 1 0 [.fn (.func 102) [] [.hp Y.length 0 0 0,.hp (Y.length+2) 0 0 0]]]))
   (fun k=>k.bel s t) 102 [.hp Y.length 0 0 0,.hp (Y.length+2) 0 0 0] ks (by omega) (fun k hk x hx=>jy G (ihk k hk) hn (hm1 _) (p1:=Y.length) (p2:=Y.length+2) (by omega) (by omega) (by rw[aH _ rfl];rfl) (by rw[aV _ rfl];rfl) x hx) x hx
  generalize (ks.any fun k=>k.bel s t)=b at*;refine sb [.tmp 6] Tryz.func65 ?_;intro Q hQ;refine wk F ?_;refine hany.mono ?_;rintro r h' ⟨rfl,y,hy,rfl⟩;try refine sq F ?_
  refine wk F ?_;refine ee hQ F ?_;exact cw hn hm (fun N=>.bool _) ⟨rfl,y,hy,rfl⟩
 by_cases k5:op=5
 ·subst k5;have hl1:ks.length=1:=by
   unfold pnG kdG at hpg;simp only[L7]at hpg;simpa using hpg.2
  obtain⟨k,rfl⟩:∃k,ks=[k]:=by
   match ks,hl1 with
   | [k],_=>exact⟨k,rfl⟩
  have hb:(Qy.mk 5 num tx [k]).bel s t= !k.bel s t:=by rw[Qy.bel,L5 (by decide),L5 (by decide),M1 rfl,Qy.belO,Qy.belO,za2]
  rw[hb];have hc:=jy G (ihk k (by simp)) hn (hm1 [.row 123 1 0 [.hp (a+1) 0 0 0],.row 25 4 0 [.agg [.int .i64 5,.int .i64 num,.str tx,.sl 4 ([k].map Qy.av)]],.row 69 9 0 [t.av],.row 29 1 0 [.fn (.func 102) [] [.hp Y.length 0 0 0,.hp (Y.length+2) 0 0 0]]])
   (p1:=Y.length) (p2:=Y.length+2) (by omega) (by omega) (by rw[aH _ rfl];rfl) (by rw[aV _ rfl];rfl) x hx
  clear ih ihk hkm hpk hb;generalize k.bel s t=b at*;obtain⟨ko,kn,kt,kl⟩:=k;simp only[N7,R9]at*;rw[Qy.av_eq]at*
  skip
  refine sb [.tmp 6] Tryz.func65 ?_;intro Q hQ;refine wn F ?_;refine aA 6 [5] [true,true,true,true,true,false] (.one 5 [] .fin) (by decide+kernel) (by kernel_rfl) (by decide+kernel) ?_;simp only[aD,aE,aC];try refine sq F ?_
  repeat' ((first|refine ae ?_|refine af ?_|refine ah ?_ ?_)<;>try refine sq F ?_)
  all_goals try refine wn F ?_
  refine hc.mono ?_;rintro r h' ⟨rfl,y,hy,rfl⟩;repeat' ((first|refine ae ?_|refine af ?_|refine ah ?_ ?_)<;>try refine sq F ?_)
  all_goals try refine wn F ?_
  skip
  refine ee hQ F ?_;exact cw hn hm (fun N=>.bool _) ⟨rfl,y,hy,rfl⟩
 rw[zE k3 k4 k5];by_cases k7:op=7
 ·subst k7;have hf:=fun Y hm=>oO G s hI num (Y:=Y) hn hm x hx
  have hul:(undF s num).length≤1048576:=by
   unfold undF;split
   ·rw[L8];refine R1 (X8 _ _) ?_;have:=aJ (z:=Fe.z) s.fe;have:=hI.l2;show(valsM Fe.z s.fe).length≤_;omega
   ·simp
  have hcn:=tR G (undF s num) t.feed hul;have hb:leafF s t 7 num tx=(undF s num).any fun a=>decide (t.feed=a):=rfl
  rw[hb];generalize ((undF s num).any fun a=>decide (t.feed=a))=b at*;generalize undF s num=u at*
  skip
  refine sb [.tmp 6] Tryz.func65 ?_;intro Q hQ;refine wn F ?_;refine aA 6 [3] [true,true,true,false,true,true] (.one 3 [false,false,false,false,true,true] .fin) (by decide+kernel) (by kernel_rfl) (by decide+kernel) ?_;simp only[aD,aE,aC];try refine sq F ?_
  repeat' ((first|refine ae ?_|refine af ?_|refine ah ?_ ?_)<;>try refine sq F ?_)
  all_goals try refine wn F ?_
  refine(hf _ (hm1 _)).mono ?_;rintro r h' ⟨rfl,y,hy,rfl⟩;refine⟨by simp(disch:=first|omega| (simp only[go_sem, ↓reduceIte,seval];first|done|omega)|fail) only[go_sem, ↓reduceIte,seval,F],?_⟩;repeat' ((first|refine ae ?_|refine af ?_|refine ah ?_ ?_)<;>try refine sq F ?_)
  all_goals try refine wn F ?_
  refine(hcn _).mono ?_;rintro r h' ⟨rfl,rfl⟩;repeat' ((first|refine ae ?_|refine af ?_|refine ah ?_ ?_)<;>try refine sq F ?_)
  all_goals try refine wn F ?_
  skip
  refine ee hQ F ?_;exact cw hn hm (fun N=>.bool _) ⟨rfl,y,hy,rfl⟩
 by_cases k8:op=8
 ·subst k8;have hcn:=tS G t.tags tx htg;have hb:leafF s t 8 num tx=t.tags.any fun a=>decide (tx=a):=rfl
  rw[hb];generalize (t.tags.any fun a=>decide (tx=a))=b at*;refine sb [.tmp 6] Tryz.func65 ?_;intro Q hQ;refine wk F ?_;refine kq F (hcn _) ?_;refine ee hQ F ?_;exact cw hn hm (fun N=>.bool _) ⟨rfl,x,hx,rfl⟩
 by_cases k11:op=11
 ·subst k11;have hcn:=wE G t.title tx (by omega) (by omega);have hb:leafF s t 11 num tx=hasF t.title tx:=rfl;rw[hb];generalize hasF t.title tx=b at*;refine sb [.tmp 6] Tryz.func65 ?_;intro Q hQ;refine wk F ?_;refine kq F (hcn _) ?_;refine ee hQ F ?_;exact cw hn hm (fun N=>.bool _) ⟨rfl,x,hx,rfl⟩
 by_cases k12:op=12
 ·subst k12;have hcn:=oI G t.title tx (by omega) (by omega);have hb:leafF s t 12 num tx=bgnF t.title tx:=rfl;rw[hb];generalize bgnF t.title tx=b at*;refine sb [.tmp 6] Tryz.func65 ?_;intro Q hQ;refine wk F ?_;refine kq F (hcn _) ?_;refine ee hQ F ?_;exact cw hn hm (fun N=>.bool _) ⟨rfl,x,hx,rfl⟩
 by_cases k15:op=15
 ·subst k15;have hck:∀Y,a+2≤Y.length→Sat (CT G) 109 [.hp (n+8) 0 0 0] (sa Y n s a x) (fun r h'=>r=.int .i64 s.clock∧h'=sa Y n s a x):=fun Y hm=>oL G s (by rw[bZ hm];omega)
  have hb:leafF s t 15 num tx=decide (t.date>IntKind.i64.wrap (s.clock-IntKind.i64.wrap (num*86400))):=rfl;rw[hb];refine sb [.tmp 6] Tryz.func65 ?_;intro Q hQ;refine wk F ?_;refine au (hck _ (hm1 _)) ?_;try refine sq F ?_
  refine wk F ?_;refine ee hQ F ?_;exact cw hn hm (fun N=>.bool _) ⟨rfl,x,hx,rfl⟩
 have ho:op=1∨op=2∨op=6∨op=9∨op=10∨op=13∨op=14:=by omega
 clear ih ihk;rcases ho with rfl|rfl|rfl|rfl|rfl|rfl|rfl;all_goals (
  refine sb [.tmp 6] Tryz.func65 ?_;intro Q hQ;refine wk F ?_;refine ee hQ F ?_;exact cw hn hm (fun N=>.bool _) ⟨by first|rfl| (congr 1;rw[O9];simp[leafF]),x,hx,rfl⟩)
end
section
attribute [local irreducible] WP WPl WPix Sat
theorem y9{s:PS}(hI:s.Inv)(num:Int):(undF s num).length≤1048576:=by
 unfold undF;split
 ·rw[L8];refine R1 (X8 _ _) ?_;have:=aJ (z:=Fe.z) s.fe;have:=hI.l2;show(valsM Fe.z s.fe).length≤_;omega
 ·simp
variable (G:Nat→Option (List AVal))
theorem tY(s:PS)(hI:s.Inv)(op num:Int)(tx:Bs)(ks:List Qy)(t:It)(htl:t.title.length≤20000)(htx:tx.length≤20000)(htg:t.tags.length≤1048576)(h:Heap):
  Sat (CT G) 113 [s.tell.av,(Qy.mk op num tx ks).av,t.av] h (fun r h'=>r=.bool (leafF s t op num tx)∧h'=h):=by
 rw[Qy.av_eq];by_cases k7:op=7
 ·subst k7;have hU:=fun h=>rN G s.tell hI.up num h
  rw[zC hI]at hU;have hul:=y9 hI num;have hb:leafF s t 7 num tx=(undF s num).any fun a=>decide (t.feed=a):=rfl
  rw[hb];generalize undF s num=u at*;generalize s.tell=x at*;have ml:(u.map iA).length=u.length:=L8 ..;have F:=ml;refine sb [.tmp 6] Tryz.func113 ?_;intro Q hQ;refine wk F ?_;refine kq F (hU _) ?_;refine lm (fun nL tL hL=>∃(k:Nat),u.length-k=nL∧h++[.row 40 9 0 [x.av],.row 25 4 0 [.agg [.int .i64 7,.int .i64 num,.str tx,.sl 4 (ks.map Qy.av)]],.row 69 9 0 [t.av]]=hL∧tL 5=.hp (h.length+2) 0 0 0∧tL 7=.sl 1 (u.map iA)∧tL 8=.int .i64 k∧k≤u.length∧(∀a∈u.take k,decide (t.feed=a)=false)) ((fun(k:Nat)=>(u.length-k:Nat)) (0)) ?_ ?_
  ·refine M0 ⟨0,rfl,aw,?_,?_,?_,by omega,by simp⟩;all_goals try exact zZz F
  rintro _ s2 h' ⟨k,rfl,rfl,e5,e7,e8,hk,hp⟩ K2 hK2;simp only[ai,ak,Nat.reduceEqDiff, ↓reduceIte]at e5 e7 e8;have F:=F4 F e5 e7 e8;by_cases c1:k<u.length
  ·obtain⟨y,hy,_⟩:=ac c1;have d1:=O4 c1;by_cases c3:y=t.feed
   ·have e:=any_at (p:=fun a=>decide (t.feed=a)) hy (by simp[c3]);have d3:(y==t.feed)=true:=(by simp[c3]);have F:=F4 F d1 hy d3;(try refine sq F ?_);refine wk F ?_;refine ee hQ F ?_;exact L6 (.bool _) ⟨by rw[e],rfl⟩
   ·have d3:(y==t.feed)=false:=(by simp[c3]);have hp1:=er (p:=fun a=>decide (t.feed=a)) hy (by simp[Ne.symm c3]) hp;have F:=F4 F d1 hy d3;(try refine sq F ?_);refine wk F ?_;refine hK2 _ _ _ (M0 ⟨k+1,rfl,aw,?_,?_,?_,by omega,hp1⟩) (by omega);all_goals try exact zZz F
  ·have e:=any_no (p:=fun a=>decide (t.feed=a)) (l:=u) fun a ha=>hp a (by rwa [M4 (by omega)])
   have d1:=O0 c1;have F:=F2 F d1;(try refine sq F ?_);refine wk F ?_;refine ee hQ F ?_;exact L6 (.bool _) ⟨by rw[e],rfl⟩
 by_cases k8:op=8
 ·subst k8;have hb:leafF s t 8 num tx=t.tags.any fun a=>decide (tx=a):=rfl
  rw[hb];generalize s.tell=x at*;have ml:(t.tags.map AVal.str).length=t.tags.length:=L8 ..;have F:=ml;refine sb [.tmp 6] Tryz.func113 ?_;intro Q hQ;refine wk F ?_;refine lm (fun nL tL hL=>∃(k:Nat),t.tags.length-k=nL∧h++[.row 40 9 0 [x.av],.row 25 4 0 [.agg [.int .i64 8,.int .i64 num,.str tx,.sl 4 (ks.map Qy.av)]],.row 69 9 0 [t.av]]=hL∧tL 4=.hp (h.length+1) 0 0 0∧tL 5=.hp (h.length+2) 0 0 0∧tL 9=.int .i64 k∧k≤t.tags.length∧(∀a∈t.tags.take k,decide (tx=a)=false)) ((fun(k:Nat)=>(t.tags.length-k:Nat)) (0)) ?_ ?_
  ·refine M0 ⟨0,rfl,aw,?_,?_,?_,by omega,by simp⟩;all_goals try exact zZz F
  rintro _ s2 h' ⟨k,rfl,rfl,e4,e5,e9,hk,hp⟩ K2 hK2;simp only[ai,ak,Nat.reduceEqDiff, ↓reduceIte]at e4 e5 e9;have F:=F4 F e4 e5 e9;by_cases c1:k<t.tags.length
  ·obtain⟨y,hy,_⟩:=ac c1;have d1:=O4 c1;by_cases c3:y=tx
   ·have e:=any_at (p:=fun a=>decide (tx=a)) hy (by simp[c3]);have d3:(y==tx)=true:=(by simp[c3]);have F:=F4 F d1 hy d3;(try refine sq F ?_);refine wk F ?_;refine ee hQ F ?_;exact L6 (.bool _) ⟨by rw[e],rfl⟩
   ·have d3:(y==tx)=false:=(by simp[c3]);have hp1:=er (p:=fun a=>decide (tx=a)) hy (by simp[Ne.symm c3]) hp;have F:=F4 F d1 hy d3;(try refine sq F ?_);refine wk F ?_;refine hK2 _ _ _ (M0 ⟨k+1,rfl,aw,?_,?_,?_,by omega,hp1⟩) (by omega);all_goals try exact zZz F
  ·have e:=any_no (p:=fun a=>decide (tx=a)) (l:=t.tags) fun a ha=>hp a (by rwa [M4 (by omega)])
   have d1:=O0 c1;have F:=F2 F d1;(try refine sq F ?_);refine wk F ?_;refine ee hQ F ?_;exact L6 (.bool _) ⟨by rw[e],rfl⟩
 by_cases k11:op=11
 ·subst k11;have hcn:=wF G t.title tx htl htx;have hb:leafF s t 11 num tx=hasF t.title tx:=rfl;rw[hb];generalize hasF t.title tx=b at*;refine sb [.tmp 6] Tryz.func113 ?_;intro Q hQ;refine wk trivial ?_;refine kq trivial (hcn _) ?_;refine ee hQ trivial ?_;exact L6 (.bool _) ⟨rfl,rfl⟩
 by_cases k12:op=12
 ·subst k12;have hcn:=oJ G t.title tx htl htx;have hb:leafF s t 12 num tx=bgnF t.title tx:=rfl;rw[hb];generalize bgnF t.title tx=b at*;refine sb [.tmp 6] Tryz.func113 ?_;intro Q hQ;refine wk trivial ?_;refine kq trivial (hcn _) ?_;refine ee hQ trivial ?_;exact L6 (.bool _) ⟨rfl,rfl⟩
 by_cases k15:op=15
 ·subst k15;have hb:leafF s t 15 num tx=decide (t.date>IntKind.i64.wrap (s.tell.clock-IntKind.i64.wrap (num*86400))):=rfl;rw[hb];generalize s.tell=x at*;refine sb [.tmp 6] Tryz.func113 ?_;intro Q hQ;refine wk trivial ?_;refine ee hQ trivial ?_;exact L6 (.bool _) ⟨rfl,rfl⟩
 by_cases ho:op=1∨op=6∨op=9∨op=10∨op=13∨op=14
 ·have e:∀b,b=leafF s t op num tx→leafF s t op num tx=b:=fun b h=>h.symm
  rcases ho with rfl|rfl|rfl|rfl|rfl|rfl;all_goals (
   refine sb [.tmp 6] Tryz.func113 ?_;intro Q hQ;refine wk trivial ?_;refine ee hQ trivial ?_;exact L6 (.bool _) ⟨by first|rfl| (congr 1;rw[O9];simp[leafF]),rfl⟩)
 ·have n1:(op==1)=false:=by simp;omega
  have n6:(op==6)=false:=by simp;omega
  have n7:(op==7)=false:=by simp;omega
  have n8:(op==8)=false:=by simp;omega
  have n9:(op==9)=false:=by simp;omega
  have n10:(op==10)=false:=by simp;omega
  have n11:(op==11)=false:=by simp;omega
  have n12:(op==12)=false:=by simp;omega
  have n13:(op==13)=false:=by simp;omega
  have n14:(op==14)=false:=by simp;omega
  have n15:(op==15)=false:=by simp;omega
  have hb:leafF s t op num tx=false:=by
   unfold leafF;rw[L5 (by omega),L5 (by omega),L5 (by omega),L5 (by omega),L5 (by omega),L5 (by omega),L5 (by omega),L5 (by omega),L5 (by omega),L5 (by omega),L5 (by omega)]
  rw[hb];have F:=F2 (F9 n1 n6 n7 n8 n9 n10 n11 n12 n13) (F2 n14 n15);refine sb [.tmp 6] Tryz.func113 ?_;intro Q hQ;refine wk F ?_;refine ee hQ F ?_;exact L6 (.bool _) ⟨rfl,rfl⟩
end
end Go.Av
