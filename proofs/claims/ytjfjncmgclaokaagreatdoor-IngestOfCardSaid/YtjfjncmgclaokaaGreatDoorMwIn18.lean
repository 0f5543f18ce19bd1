/- Parts. -/
import Derived.Test.YtjfjncmgclaokaaGreatDoorMwInc
import Derived.Test.YtjfjncmgclaokaaGreatDoorMwNu
set_option linter.unusedSimpArgs false
set_option linter.unusedVariables false
set_option linter.unusedSectionVars false
set_option linter.unnecessarySimpa false
set_option maxRecDepth 100000
set_option maxHeartbeats 16000000
namespace Go.Av
open Go Go.Proofs Go.RowKit
section
attribute [local irreducible] WP WPl WPix Sat
theorem uU(h:Heap)(a b c d:Int)(s t u:Bs):abin Tryz.prog h .neq 57 (.agg [.int .i64 a,.int .i64 b,.int .i64 c,.int .i64 d,.str s,.str t,.str u]) (.agg [.int .i64 a,.int .i64 b,.int .i64 c,.int .i64 d,.str s,.str t,.str u])=some (.bool false):=by
 simp[abin,go_sem,aeqL,aeq1]
theorem cI(h:Heap)(a b:Int)(s:Bs):abin Tryz.prog h .neq 95 (.agg [.int .i64 a,.int .i64 b,.str s]) (.agg [.int .i64 a,.int .i64 b,.str s])=some (.bool false):=by
 simp[abin,go_sem,aeqL,aeq1]
theorem cJ(h:Heap)(a:Int)(s t:Bs):abin Tryz.prog h .neq 97 (.agg [.int .i64 a,.str s,.str t]) (.agg [.int .i64 a,.str s,.str t])=some (.bool false):=by
 simp[abin,go_sem,aeqL,aeq1]
variable (G:Nat→Option (List AVal))
theorem ou(l:List Ev)(hl:l.length≤1048576)(h:Heap):Sat (CT G) 24 [.sl 7 (l.map Ev.av),.sl 7 (l.map Ev.av)] h (fun r h'=>r=.bool true∧h'=h):=by
 have hml:(l.map Ev.av).length=l.length:=I4 ..;have q1:((l.length:Int) != (l.length:Int))=false:=by simp
 have F:=F3 @uU hml q1;refine sb [.tmp 4] Tryz.func24 ?_;intro Q hQ;refine wk F ?_;refine lm (fun nL tL hL=>∃(k:Nat),l.length-k=nL∧h=hL∧tL 5=.int .i64 k∧k≤l.length) ((fun(k:Nat)=>(l.length-k:Nat)) (0)) ?_ ?_
 ·refine I9 ⟨0,rfl,az,?_,by omega⟩;all_goals try exact zZz F
 rintro _ s2 h' ⟨k,rfl,rfl,e5,hk⟩ K2 hK2;simp only[ah,ar,Nat.reduceEqDiff, ↓reduceIte]at e5;have F:=F2 F e5;by_cases c2:k<l.length
 ·have d2:=J7 c2;obtain⟨y,hy,hym⟩:=ac c2;have hm:(l.map Ev.av)[k]? =some y.av:=by rw[K5,hy];rfl
  have F:=F5 F hm hy d2 c2;try refine sq F ?_
  refine wk F ?_;refine hK2 _ _ _ (I9 ⟨k+1,rfl,rfl,?_,by omega⟩) (by omega);all_goals try exact zZz F
 ·have d2:=J3 c2;have F:=F2 F d2;try refine sq F ?_
  refine wk F ?_;refine ee hQ F ?_;exact M9 (.bool _) ⟨rfl,rfl⟩
theorem ow(x:St)(h1:x.fo.length≤1048576)(h2:x.fe.length≤1048576)(h3:x.it.length≤1048576)(h4:x.se.length≤1048576)(ht:∀t∈x.it,t.tags.length≤1048576)(h:Heap):Sat (CT G) 26 [x.av,x.av] h (fun r h'=>r=.bool true∧h'=h):=by
 have m1:(x.fo.map Fo.av).length=x.fo.length:=I4 ..;have m2:(x.fe.map Fe.av).length=x.fe.length:=I4 ..;have m3:(x.it.map It.av).length=x.it.length:=I4 ..;have m4:(x.se.map Se.av).length=x.se.length:=I4 ..;have qi:∀n:Nat,((n:Int) != (n:Int))=false:=fun n=>by simp
 have qe:∀a:Int,(a==a)=true:=fun a=>by simp
 rw[St.av_eq];have F:=iZ @cI @cH @cJ m1 m2 m3 m4 qi qe @ao;refine sb [.tmp 4] Tryz.func26 ?_;intro Q hQ;refine wk F ?_;refine lm (fun nL tL hL=>∃(k:Nat),x.fo.length-k=nL∧h++[.row 47 9 0 [.agg [.int .i64 x.clock,.sl 3 (x.fo.map Fo.av),.sl 4 (x.fe.map Fe.av),.sl 9 (x.it.map It.av),.sl 3 (x.se.map Se.av),.int .i64 x.t1,.int .i64 x.t2,.int .i64 x.t3,.int .i64 x.t4]],.row 47 9 0 [.agg [.int .i64 x.clock,.sl 3 (x.fo.map Fo.av),.sl 4 (x.fe.map Fe.av),.sl 9 (x.it.map It.av),.sl 3 (x.se.map Se.av),.int .i64 x.t1,.int .i64 x.t2,.int .i64 x.t3,.int .i64 x.t4]]]=hL∧tL 5=.int .i64 k∧k≤x.fo.length) ((fun(k:Nat)=>(x.fo.length-k:Nat)) (0)) ?_ ?_
 ·refine I9 ⟨0,rfl,az,?_,by omega⟩;all_goals try exact zZz F
 rintro _ s2 h' ⟨k,rfl,rfl,e5,hk⟩ K2 hK2;simp only[ah,ar,Nat.reduceEqDiff, ↓reduceIte]at e5;have F:=F2 F e5;by_cases c2:k<x.fo.length
 ·have d2:=J7 c2;obtain⟨y,hy,hym⟩:=ac c2;have hm:(x.fo.map Fo.av)[k]? =some y.av:=by rw[K5,hy];rfl
  have F:=F5 F hm hy d2 c2;try refine sq F ?_
  refine wk F ?_;refine hK2 _ _ _ (I9 ⟨k+1,rfl,rfl,?_,by omega⟩) (by omega);all_goals try exact zZz F
 have d2:=J3 c2;have F:=F2 F d2;try refine sq F ?_
 refine wk F ?_;refine lm (fun nL tL hL=>∃(k:Nat),x.fe.length-k=nL∧h++[.row 47 9 0 [.agg [.int .i64 x.clock,.sl 3 (x.fo.map Fo.av),.sl 4 (x.fe.map Fe.av),.sl 9 (x.it.map It.av),.sl 3 (x.se.map Se.av),.int .i64 x.t1,.int .i64 x.t2,.int .i64 x.t3,.int .i64 x.t4]],.row 47 9 0 [.agg [.int .i64 x.clock,.sl 3 (x.fo.map Fo.av),.sl 4 (x.fe.map Fe.av),.sl 9 (x.it.map It.av),.sl 3 (x.se.map Se.av),.int .i64 x.t1,.int .i64 x.t2,.int .i64 x.t3,.int .i64 x.t4]]]=hL∧tL 6=.int .i64 k∧k≤x.fe.length) ((fun(k:Nat)=>(x.fe.length-k:Nat)) (0)) ?_ ?_
 ·refine I9 ⟨0,rfl,az,?_,by omega⟩;all_goals try exact zZz F
 rintro _ s2 h' ⟨k,rfl,rfl,e6,hk⟩ K2 hK2;simp only[ah,ar,Nat.reduceEqDiff, ↓reduceIte]at e6;have F:=F2 F e6;by_cases c2:k<x.fe.length
 ·have d2:=J7 c2;obtain⟨y,hy,hym⟩:=ac c2;have hm:(x.fe.map Fe.av)[k]? =some y.av:=by rw[K5,hy];rfl
  have F:=F2 (F9 @cI @cH @cJ m1 m2 m3 m4 qi qe) (F7 e5 e6 hm hy d2 c2 @ao);try refine sq F ?_
  refine wk F ?_;refine hK2 _ _ _ (I9 ⟨k+1,rfl,rfl,?_,by omega⟩) (by omega);all_goals try exact zZz F
 have d2:=J3 c2;have F:=F2 (F9 @cI @cH @cJ m1 m2 m3 m4 qi qe) (F4 e5 e6 d2 @ao);try refine sq F ?_
 refine wk F ?_;refine lm (fun nL tL hL=>∃(k:Nat),x.it.length-k=nL∧h++[.row 47 9 0 [.agg [.int .i64 x.clock,.sl 3 (x.fo.map Fo.av),.sl 4 (x.fe.map Fe.av),.sl 9 (x.it.map It.av),.sl 3 (x.se.map Se.av),.int .i64 x.t1,.int .i64 x.t2,.int .i64 x.t3,.int .i64 x.t4]],.row 47 9 0 [.agg [.int .i64 x.clock,.sl 3 (x.fo.map Fo.av),.sl 4 (x.fe.map Fe.av),.sl 9 (x.it.map It.av),.sl 3 (x.se.map Se.av),.int .i64 x.t1,.int .i64 x.t2,.int .i64 x.t3,.int .i64 x.t4]]]=hL∧tL 7=.int .i64 k∧k≤x.it.length) ((fun(k:Nat)=>(x.it.length-k:Nat)) (0)) ?_ ?_
 ·refine I9 ⟨0,rfl,az,?_,by omega⟩;all_goals try exact zZz F
 rintro _ s2 h' ⟨k,rfl,rfl,e7,hk⟩ K2 hK2;simp only[ah,ar,Nat.reduceEqDiff, ↓reduceIte]at e7;have F:=F2 F e7;by_cases c2:k<x.it.length
 ·have d2:=J7 c2;obtain⟨y,hy,hym⟩:=ac c2;have hm:(x.it.map It.av)[k]? =some y.av:=by rw[K5,hy];rfl
  have F:=F2 (F9 @cI @cH @cJ m1 m2 m3 m4 qi qe) (F8 e5 e6 e7 hm hy d2 c2 @ao);try refine sq F ?_
  refine wk F ?_;refine au (lO G y (ht y hym) _) ?_;try refine sq F ?_
  refine wk F ?_;refine hK2 _ _ _ (I9 ⟨k+1,rfl,rfl,?_,by omega⟩) (by omega);all_goals try exact zZz F
 have d2:=J3 c2;have F:=F2 (F9 @cI @cH @cJ m1 m2 m3 m4 qi qe) (F5 e5 e6 e7 d2 @ao);try refine sq F ?_
 refine wk F ?_;refine lm (fun nL tL hL=>∃(k:Nat),x.se.length-k=nL∧h++[.row 47 9 0 [.agg [.int .i64 x.clock,.sl 3 (x.fo.map Fo.av),.sl 4 (x.fe.map Fe.av),.sl 9 (x.it.map It.av),.sl 3 (x.se.map Se.av),.int .i64 x.t1,.int .i64 x.t2,.int .i64 x.t3,.int .i64 x.t4]],.row 47 9 0 [.agg [.int .i64 x.clock,.sl 3 (x.fo.map Fo.av),.sl 4 (x.fe.map Fe.av),.sl 9 (x.it.map It.av),.sl 3 (x.se.map Se.av),.int .i64 x.t1,.int .i64 x.t2,.int .i64 x.t3,.int .i64 x.t4]]]=hL∧tL 8=.int .i64 k∧k≤x.se.length) ((fun(k:Nat)=>(x.se.length-k:Nat)) (0)) ?_ ?_
 ·refine I9 ⟨0,rfl,az,?_,by omega⟩;all_goals try exact zZz F
 rintro _ s2 h' ⟨k,rfl,rfl,e8,hk⟩ K2 hK2;simp only[ah,ar,Nat.reduceEqDiff, ↓reduceIte]at e8;have F:=F2 F e8;by_cases c2:k<x.se.length
 ·have d2:=J7 c2;obtain⟨y,hy,hym⟩:=ac c2;have hm:(x.se.map Se.av)[k]? =some y.av:=by rw[K5,hy];rfl
  have F:=F2 (F9 @cI @cH @cJ m1 m2 m3 m4 qi qe) (F9 e5 e6 e7 e8 hm hy d2 c2 @ao);try refine sq F ?_
  refine wk F ?_;refine hK2 _ _ _ (I9 ⟨k+1,rfl,rfl,?_,by omega⟩) (by omega);all_goals try exact zZz F
 have d2:=J3 c2;have F:=F2 (F9 @cI @cH @cJ m1 m2 m3 m4 qi qe) (F6 e5 e6 e7 e8 d2 @ao);try refine sq F ?_
 refine wk F ?_;refine ee hQ F ?_;exact I2 (.bool _) ⟨rfl,rfl⟩
end
section
attribute [local irreducible] WP WPl WPix Sat
def St.room(x:St):Int:=min (1024-x.it.length) (1048576-x.t3)
def ttF(id:Int)(ft t:Bs):List Ev:=if ft=[]∧t≠ []then [⟨5,id,0,0,[],t,[]⟩]else []
def ofR(x:St)(id:Int)(ft:Bs)(d:Fd):List Ev:=ttF id ft d.title++goR id x.clock x.t3 x.room.toNat (fun y=>decide (x.gid id y.guid>0)) d.es 0
variable (G:Nat→Option (List AVal))
theorem sU(x:St)(h1:x.it.length≤1024)(h2:0≤x.t3)(h3:x.t3≤1048576)(h:Heap):Sat (CT G) 50 [x.av] h (fun r h'=>r=.int .i64 x.room∧h'=h):=by
 have m3:(x.it.map It.av).length=x.it.length:=I4 ..;unfold St.room;rw[St.av_eq];by_cases hc:1024-(x.it.length:Int)>1048576-x.t3
 ·have q:decide (1024-(x.it.length:Int)>1048576-x.t3)=true:=J7 hc;rw[show min (1024-(x.it.length:Int)) (1048576-x.t3)=1048576-x.t3 by omega];have F:=F3 m3 q @ao;refine sb [.tmp 2] Tryz.func50 ?_;intro Q hQ;refine wk F ?_;refine ee hQ F ?_;exact I2 (.int _ _) ⟨rfl,rfl⟩
 ·have q:decide (1024-(x.it.length:Int)>1048576-x.t3)=false:=J3 hc;rw[show min (1024-(x.it.length:Int)) (1048576-x.t3)=1024-x.it.length by omega];have F:=F3 m3 q @ao;refine sb [.tmp 2] Tryz.func50 ?_;intro Q hQ;refine wk F ?_;refine ee hQ F ?_;exact I2 (.int _ _) ⟨rfl,rfl⟩
theorem wb(x:St)(id:Int)(d:Fd)(i0:Nat)(f:Fe)(hf:x.fe[i0]? =some f)(hp:posF (·.id) x.fe id=(i0:Int))(h0:x.fe.length≤1000)(h1:x.it.length≤1024)(h2:0≤x.t3)(h3:x.t3≤1048576)(hd:d.es.length≤1000)(h:Heap):
  Sat (CT G) 25 [x.av,.int .i64 id,d.av] h (fun r h'=>r=.sl 7 ((ofR x id f.title d).map Ev.av)∧h'=h):=by
 have hFd:=bI G x id (by omega);rw[hp]at hFd;have hRm:=sU G x h1 h2 h3;have hGu:=fun g=>lB G x id g (by omega)
 have hr0:0≤x.room:=by unfold St.room;omega
 have hr1:x.room≤1048576:=by unfold St.room;omega
 unfold ofR;generalize x.room=R at*;obtain⟨dt,dk,es⟩:=d;obtain⟨fi,fn,fu,ft⟩:=f;simp only[]at hd ⊢;have f2:(Fd.mk dt dk es).av=.agg [.str dt,.str dk,.sl 5 (es.map En.av)]:=rfl;rw[f2];have hmf:(x.fe.map Fe.av)[i0]? =some (.agg [.int .i64 fi,.int .i64 fn,.str fu,.str ft]):=by rw[K5,hf];rfl
 have hil:i0<x.fe.length:=(f9.1 hf).1;have mes:(es.map En.av).length=es.length:=I4 ..;have mfe:(x.fe.map Fe.av).length=x.fe.length:=I4 ..;rw[St.av_eq]at*;have dt1:∀i:Decidable True, @decide True i=true:=fun i=>by simp
 have df:∀i:Decidable False, @decide False i=false:=fun i=>by simp
 generalize hx:(fun y:En=>decide (x.gid id y.guid>0))=p at*;have hpv:∀y:En,decide (x.gid id y.guid>0)=p y:=fun y=>by rw[← hx]
 by_cases c1:ft=[]∧dt≠ []
 ·have hv:ttF id ft dt=[⟨5,id,0,0,[],dt,[]⟩]:=I6 c1;have q1:(ft==([]:Bs))=true:=by simp[c1.1]
  have q2:(dt==([]:Bs))=false:=by simp[c1.2]
  have F:=F2 (F9 dt1 df q1 q2 @P1 @O5 hil hmf hf) (F3 @mes @mfe @ao);refine sb [.tmp 6] Tryz.func25 ?_;intro Q hQ;refine wk F ?_;refine dn 14 (.nil) (by decide+kernel) (by kernel_rfl) (by decide+kernel) ?_;simp only[M7,N6];try refine sq F ?_
  repeat' (first|refine bR ?_| (refine bS rfl ?_;refine sq F ?_)| (refine bT rfl rfl ?_ ?_<;>refine sq F ?_))
  refine au (hFd _) ?_;try refine sq F ?_
  refine wk F ?_;refine mg (.inl rfl) (by simp(disch:=first|omega| (simp only[go_sem, ↓reduceIte,seval];first|done|omega)|fail) only[go_sem, ↓reduceIte,seval,F];try rfl) (by simp(disch:=first|omega| (simp only[go_sem, ↓reduceIte,seval];first|done|omega)|fail) only[go_sem, ↓reduceIte,seval,F];try rfl) (by simp(disch:=first|omega| (simp only[go_sem, ↓reduceIte,seval];first|done|omega)|fail) only[go_sem, ↓reduceIte,seval,F];try rfl) (by simp(disch:=first|omega| (simp only[go_sem, ↓reduceIte,seval];first|done|omega)|fail) only[go_sem, ↓reduceIte,seval,F];try rfl) (by omega) (by simp only[elemsOf, ↓reduceIte];rfl) ⟨by simp[maxLen],by simp⟩ ?_;try refine sq F ?_
  refine wk F ?_;refine lm (fun nL tL hL=>∃(i k v:Nat) (ws:List Ev) (j:Heap),es.length-i=nL∧h++(.row 47 9 0 [.agg [.int .i64 x.clock,.sl 3 (x.fo.map Fo.av),.sl 4 (x.fe.map Fe.av),.sl 9 (x.it.map It.av),.sl 3 (x.se.map Se.av),.int .i64 x.t1,.int .i64 x.t2,.int .i64 x.t3,.int .i64 x.t4]]:: .row 25 3 0 [.agg [.str dt,.str dk,.sl 5 (es.map En.av)]]:: .row 57 7 v (ws.map Ev.av)::j)=hL∧tL 7=.hs (h.length+2) v 0 ws.length true∧tL 8=.int .i64 k∧tL 9=.int .i64 i∧i≤es.length∧k≤i∧ws.length≤1+i∧ws++goR id x.clock x.t3 R.toNat p (es.drop i) k=ttF id ft dt++goR id x.clock x.t3 R.toNat p es 0) ((fun(i k v:Nat) (ws:List Ev) (j:Heap)=>(es.length-i:Nat)) (0) (0) (0) ([⟨5,id,0,0,[],dt,[]⟩]) ([])) ?_ ?_
  ·refine I9 ⟨0,0,0,[⟨5,id,0,0,[],dt,[]⟩],[],rfl,az,?_,?_,?_,by omega,by omega,by simp,by rw[hv];rfl⟩;all_goals try exact zZz F
  rintro _ s2 h' ⟨i,k,v,ws,j,rfl,rfl,e7,e8,e9,hi,hk,hw,hg⟩ K2 hK2;simp only[ah,ar,Nat.reduceEqDiff, ↓reduceIte]at e7 e8 e9;have F:=F4 F e7 e8 e9;have mw:(ws.map Ev.av).length=ws.length:=I4 ..;have fin:∀j,ws=ttF id ft dt++goR id x.clock x.t3 R.toNat p es 0→Fin h (h++(.row 47 9 0 [.agg [.int .i64 x.clock,.sl 3 (x.fo.map Fo.av),.sl 4 (x.fe.map Fe.av),.sl 9 (x.it.map It.av),.sl 3 (x.se.map Se.av),.int .i64 x.t1,.int .i64 x.t2,.int .i64 x.t3,.int .i64 x.t4]]:: .row 25 3 0 [.agg [.str dt,.str dk,.sl 5 (es.map En.av)]]:: .row 57 7 v (ws.map Ev.av)::j)) (fun r h'=>r=.sl 7 ((ttF id ft dt++goR id x.clock x.t3 R.toNat p es 0).map Ev.av)∧h'=h) (.hs (h.length+2) v 0 ws.length true):=fun j e=>by
   rw[← e];exact X1 (U9 (by omega) (by rw[bm _ rfl];show(if v=v then _ else _)=_;rw[I6 rfl]) (by simp) (fun r hr=>by obtain⟨e,_,rfl⟩:=J8.1 hr;exact iE _ e) (fun r hr=>by obtain⟨e,_,rfl⟩:=J8.1 hr;exact kh e)) ⟨rfl,rfl⟩
  by_cases c1:i<es.length
  rotate_left
  ·have d1:=J3 c1;rw[P3 (by omega),goR,M6]at hg;have F:=F3 F d1 mw;(try refine sq F ?_);refine wk F ?_;refine ee hQ F ?_;exact fin _ hg
  have d1:=J7 c1;obtain⟨y,hy,hym⟩:=ac c1;have hm:(es.map En.av)[i]? =some y.av:=by rw[K5,hy];rfl
  rw[aE hy,goR]at hg;by_cases c2:k<R.toNat
  rotate_left
  ·have d2:decide ((k:Int)<R)=false:=J3 (by omega);rw[I0 c2,M6]at hg;have F:=F4 F d1 d2 mw;(try refine sq F ?_);refine wk F ?_;refine kq F (hRm _) ?_;refine ee hQ F ?_;exact fin _ hg
  have d2:decide ((k:Int)<R)=true:=J7 (by omega);rw[I6 c2]at hg;have hG1:=hGu y.guid;have hpy:=hpv y;obtain⟨yg,yt,yk,ya,yb⟩:=y;rw[En.av_eq]at hm;simp only[]at hm hG1 hpy;cases hb:p ⟨yg,yt,yk,ya,yb⟩with
  |true=>
   rw[hb]at hg hpy;rw[I6 rfl]at hg;have F:=F7 F hpy hm hy d1 d2 mw;(try refine sq F ?_);refine wk F ?_;refine kq F (hRm _) ?_;refine kq F (hG1 _) ?_;refine hK2 _ _ _ (I9 ⟨i+1,k,v,ws,j++[.row 61 5 0 [.agg [.str yg,.str yt,.str yk,.int .i64 ya,.bool yb]]],rfl,by simp,?_,?_,?_,by omega,by omega,by omega,hg⟩) (by omega);all_goals try exact zZz F
  |false=>
   rw[hb]at hg hpy;rw[I0 (by simp)]at hg;have hg2:(ws++[evX id x.clock (x.t3+k+1) ⟨yg,yt,yk,ya,yb⟩])++goR id x.clock x.t3 R.toNat p (es.drop (i+1)) (k+1)=ttF id ft dt++goR id x.clock x.t3 R.toNat p es 0:=(by rw[← hg,N0];rfl);cases yb
   ·have F:=F7 F hpy hm hy d1 d2 mw;(try refine sq F ?_);refine wk F ?_;refine kq F (hRm _) ?_;refine kq F (hG1 _) ?_;refine aq F ?_;(try refine sq F ?_);refine wk F ?_;refine hK2 _ _ _ (I9 ⟨i+1,k+1,v+1,ws++[evX id x.clock (x.t3+k+1) ⟨yg,yt,yk,ya,false⟩],j++[.row 61 5 0 [.agg [.str yg,.str yt,.str yk,.int .i64 ya,.bool false]],.row 57 7 0 [(evX id x.clock (x.t3+k+1) ⟨yg,yt,yk,ya,false⟩).av]],rfl,by simp[Ev.av,evX,Int.add_assoc],?_,?_,?_,by omega,by omega,by simp;omega,hg2⟩) (by omega);all_goals try exact zZz F
   ·have F:=F7 F hpy hm hy d1 d2 mw;(try refine sq F ?_);refine wk F ?_;refine kq F (hRm _) ?_;refine kq F (hG1 _) ?_;refine aq F ?_;(try refine sq F ?_);refine wk F ?_;refine hK2 _ _ _ (I9 ⟨i+1,k+1,v+1,ws++[evX id x.clock (x.t3+k+1) ⟨yg,yt,yk,ya,true⟩],j++[.row 61 5 0 [.agg [.str yg,.str yt,.str yk,.int .i64 ya,.bool true]],.row 57 7 0 [(evX id x.clock (x.t3+k+1) ⟨yg,yt,yk,ya,true⟩).av]],rfl,by simp[Ev.av,evX,Int.add_assoc],?_,?_,?_,by omega,by omega,by simp;omega,hg2⟩) (by omega);all_goals try exact zZz F
 ·have hv:ttF id ft dt=[]:=I0 c1;have alt:(ft==([]:Bs))=false∨((ft==([]:Bs))=true∧(dt==([]:Bs))=true):=by
   by_cases e1:ft=[]
   ·by_cases e2:dt=[]
    ·right;simp[e1,e2]
    ·exact(c1 ⟨e1,e2⟩).elim
   ·left;simp[e1]
  rcases alt with q1| ⟨q1,q2⟩
  ·have F:=F2 (F9 dt1 df q1 @P1 @O5 hil hmf hf @mes) (F2 @mfe @ao);refine sb [.tmp 6] Tryz.func25 ?_;intro Q hQ;refine wk F ?_;refine dn 14 (.nil) (by decide+kernel) (by kernel_rfl) (by decide+kernel) ?_;simp only[M7,N6];(try refine sq F ?_);repeat' (first|refine bR ?_| (refine bS rfl ?_;refine sq F ?_)| (refine bT rfl rfl ?_ ?_<;>refine sq F ?_))
   refine au (hFd _) ?_;(try refine sq F ?_);refine wk F ?_;refine lm (fun nL tL hL=>∃(i k v:Nat) (ws:List Ev) (j:Heap),es.length-i=nL∧h++(.row 47 9 0 [.agg [.int .i64 x.clock,.sl 3 (x.fo.map Fo.av),.sl 4 (x.fe.map Fe.av),.sl 9 (x.it.map It.av),.sl 3 (x.se.map Se.av),.int .i64 x.t1,.int .i64 x.t2,.int .i64 x.t3,.int .i64 x.t4]]:: .row 25 3 0 [.agg [.str dt,.str dk,.sl 5 (es.map En.av)]]:: .row 57 7 v (ws.map Ev.av)::j)=hL∧tL 7=.hs (h.length+2) v 0 ws.length true∧tL 8=.int .i64 k∧tL 9=.int .i64 i∧i≤es.length∧k≤i∧ws.length≤1+i∧ws++goR id x.clock x.t3 R.toNat p (es.drop i) k=ttF id ft dt++goR id x.clock x.t3 R.toNat p es 0) ((fun(i k v:Nat) (ws:List Ev) (j:Heap)=>(es.length-i:Nat)) (0) (0) (0) ([]) ([])) ?_ ?_
   ·refine⟨_,_,V3 7 57 7 (by simp) (by omega) (by exact zq F),⟨0,0,0,[],[],rfl,az,?_,?_,?_,by omega,by omega,by simp,by rw[hv];rfl⟩⟩;all_goals try exact zZz F
   rintro _ s2 h' ⟨i,k,v,ws,j,rfl,rfl,e7,e8,e9,hi,hk,hw,hg⟩ K2 hK2;simp only[ah,ar,Nat.reduceEqDiff, ↓reduceIte]at e7 e8 e9;have F:=F4 F e7 e8 e9;have mw:(ws.map Ev.av).length=ws.length:=I4 ..;have fin:∀j,ws=ttF id ft dt++goR id x.clock x.t3 R.toNat p es 0→Fin h (h++(.row 47 9 0 [.agg [.int .i64 x.clock,.sl 3 (x.fo.map Fo.av),.sl 4 (x.fe.map Fe.av),.sl 9 (x.it.map It.av),.sl 3 (x.se.map Se.av),.int .i64 x.t1,.int .i64 x.t2,.int .i64 x.t3,.int .i64 x.t4]]:: .row 25 3 0 [.agg [.str dt,.str dk,.sl 5 (es.map En.av)]]:: .row 57 7 v (ws.map Ev.av)::j)) (fun r h'=>r=.sl 7 ((ttF id ft dt++goR id x.clock x.t3 R.toNat p es 0).map Ev.av)∧h'=h) (.hs (h.length+2) v 0 ws.length true):=fun j e=>by
    rw[← e];exact X1 (U9 (by omega) (by rw[bm _ rfl];show(if v=v then _ else _)=_;rw[I6 rfl]) (by simp) (fun r hr=>by obtain⟨e,_,rfl⟩:=J8.1 hr;exact iE _ e) (fun r hr=>by obtain⟨e,_,rfl⟩:=J8.1 hr;exact kh e)) ⟨rfl,rfl⟩
   by_cases c1:i<es.length
   rotate_left
   ·have d1:=J3 c1;rw[P3 (by omega),goR,M6]at hg;have F:=F3 F d1 mw;(try refine sq F ?_);refine wk F ?_;refine ee hQ F ?_;exact fin _ hg
   have d1:=J7 c1;obtain⟨y,hy,hym⟩:=ac c1;have hm:(es.map En.av)[i]? =some y.av:=(by rw[K5,hy];rfl);rw[aE hy,goR]at hg;by_cases c2:k<R.toNat
   rotate_left
   ·have d2:decide ((k:Int)<R)=false:=J3 (by omega);rw[I0 c2,M6]at hg;have F:=F4 F d1 d2 mw;(try refine sq F ?_);refine wk F ?_;refine kq F (hRm _) ?_;refine ee hQ F ?_;exact fin _ hg
   have d2:decide ((k:Int)<R)=true:=J7 (by omega);rw[I6 c2]at hg;have hG1:=hGu y.guid;have hpy:=hpv y;obtain⟨yg,yt,yk,ya,yb⟩:=y;rw[En.av_eq]at hm;simp only[]at hm hG1 hpy;cases hb:p ⟨yg,yt,yk,ya,yb⟩with
   |true=>
    rw[hb]at hg hpy;rw[I6 rfl]at hg;have F:=F7 F hpy hm hy d1 d2 mw;(try refine sq F ?_);refine wk F ?_;refine kq F (hRm _) ?_;refine kq F (hG1 _) ?_;refine hK2 _ _ _ (I9 ⟨i+1,k,v,ws,j++[.row 61 5 0 [.agg [.str yg,.str yt,.str yk,.int .i64 ya,.bool yb]]],rfl,by simp,?_,?_,?_,by omega,by omega,by omega,hg⟩) (by omega);all_goals try exact zZz F
   |false=>
    rw[hb]at hg hpy;rw[I0 (by simp)]at hg;have hg2:(ws++[evX id x.clock (x.t3+k+1) ⟨yg,yt,yk,ya,yb⟩])++goR id x.clock x.t3 R.toNat p (es.drop (i+1)) (k+1)=ttF id ft dt++goR id x.clock x.t3 R.toNat p es 0:=(by rw[← hg,N0];rfl);cases yb
    ·have F:=F7 F hpy hm hy d1 d2 mw;(try refine sq F ?_);refine wk F ?_;refine kq F (hRm _) ?_;refine kq F (hG1 _) ?_;refine aq F ?_;(try refine sq F ?_);refine wk F ?_;refine hK2 _ _ _ (I9 ⟨i+1,k+1,v+1,ws++[evX id x.clock (x.t3+k+1) ⟨yg,yt,yk,ya,false⟩],j++[.row 61 5 0 [.agg [.str yg,.str yt,.str yk,.int .i64 ya,.bool false]],.row 57 7 0 [(evX id x.clock (x.t3+k+1) ⟨yg,yt,yk,ya,false⟩).av]],rfl,by simp[Ev.av,evX,Int.add_assoc],?_,?_,?_,by omega,by omega,by simp;omega,hg2⟩) (by omega);all_goals try exact zZz F
    ·have F:=F7 F hpy hm hy d1 d2 mw;(try refine sq F ?_);refine wk F ?_;refine kq F (hRm _) ?_;refine kq F (hG1 _) ?_;refine aq F ?_;(try refine sq F ?_);refine wk F ?_;refine hK2 _ _ _ (I9 ⟨i+1,k+1,v+1,ws++[evX id x.clock (x.t3+k+1) ⟨yg,yt,yk,ya,true⟩],j++[.row 61 5 0 [.agg [.str yg,.str yt,.str yk,.int .i64 ya,.bool true]],.row 57 7 0 [(evX id x.clock (x.t3+k+1) ⟨yg,yt,yk,ya,true⟩).av]],rfl,by simp[Ev.av,evX,Int.add_assoc],?_,?_,?_,by omega,by omega,by simp;omega,hg2⟩) (by omega);all_goals try exact zZz F
  ·have F:=F2 (F9 dt1 df q1 q2 @P1 @O5 hil hmf hf) (F3 @mes @mfe @ao);refine sb [.tmp 6] Tryz.func25 ?_;intro Q hQ;refine wk F ?_;refine dn 14 (.nil) (by decide+kernel) (by kernel_rfl) (by decide+kernel) ?_;simp only[M7,N6];(try refine sq F ?_);repeat' (first|refine bR ?_| (refine bS rfl ?_;refine sq F ?_)| (refine bT rfl rfl ?_ ?_<;>refine sq F ?_))
   refine au (hFd _) ?_;(try refine sq F ?_);refine wk F ?_;refine lm (fun nL tL hL=>∃(i k v:Nat) (ws:List Ev) (j:Heap),es.length-i=nL∧h++(.row 47 9 0 [.agg [.int .i64 x.clock,.sl 3 (x.fo.map Fo.av),.sl 4 (x.fe.map Fe.av),.sl 9 (x.it.map It.av),.sl 3 (x.se.map Se.av),.int .i64 x.t1,.int .i64 x.t2,.int .i64 x.t3,.int .i64 x.t4]]:: .row 25 3 0 [.agg [.str dt,.str dk,.sl 5 (es.map En.av)]]:: .row 57 7 v (ws.map Ev.av)::j)=hL∧tL 7=.hs (h.length+2) v 0 ws.length true∧tL 8=.int .i64 k∧tL 9=.int .i64 i∧i≤es.length∧k≤i∧ws.length≤1+i∧ws++goR id x.clock x.t3 R.toNat p (es.drop i) k=ttF id ft dt++goR id x.clock x.t3 R.toNat p es 0) ((fun(i k v:Nat) (ws:List Ev) (j:Heap)=>(es.length-i:Nat)) (0) (0) (0) ([]) ([])) ?_ ?_
   ·refine⟨_,_,V3 7 57 7 (by simp) (by omega) (by exact zq F),⟨0,0,0,[],[],rfl,az,?_,?_,?_,by omega,by omega,by simp,by rw[hv];rfl⟩⟩;all_goals try exact zZz F
   rintro _ s2 h' ⟨i,k,v,ws,j,rfl,rfl,e7,e8,e9,hi,hk,hw,hg⟩ K2 hK2;simp only[ah,ar,Nat.reduceEqDiff, ↓reduceIte]at e7 e8 e9;have F:=F4 F e7 e8 e9;have mw:(ws.map Ev.av).length=ws.length:=I4 ..;have fin:∀j,ws=ttF id ft dt++goR id x.clock x.t3 R.toNat p es 0→Fin h (h++(.row 47 9 0 [.agg [.int .i64 x.clock,.sl 3 (x.fo.map Fo.av),.sl 4 (x.fe.map Fe.av),.sl 9 (x.it.map It.av),.sl 3 (x.se.map Se.av),.int .i64 x.t1,.int .i64 x.t2,.int .i64 x.t3,.int .i64 x.t4]]:: .row 25 3 0 [.agg [.str dt,.str dk,.sl 5 (es.map En.av)]]:: .row 57 7 v (ws.map Ev.av)::j)) (fun r h'=>r=.sl 7 ((ttF id ft dt++goR id x.clock x.t3 R.toNat p es 0).map Ev.av)∧h'=h) (.hs (h.length+2) v 0 ws.length true):=fun j e=>by
    rw[← e];exact X1 (U9 (by omega) (by rw[bm _ rfl];show(if v=v then _ else _)=_;rw[I6 rfl]) (by simp) (fun r hr=>by obtain⟨e,_,rfl⟩:=J8.1 hr;exact iE _ e) (fun r hr=>by obtain⟨e,_,rfl⟩:=J8.1 hr;exact kh e)) ⟨rfl,rfl⟩
   by_cases c1:i<es.length
   rotate_left
   ·have d1:=J3 c1;rw[P3 (by omega),goR,M6]at hg;have F:=F3 F d1 mw;(try refine sq F ?_);refine wk F ?_;refine ee hQ F ?_;exact fin _ hg
   have d1:=J7 c1;obtain⟨y,hy,hym⟩:=ac c1;have hm:(es.map En.av)[i]? =some y.av:=(by rw[K5,hy];rfl);rw[aE hy,goR]at hg;by_cases c2:k<R.toNat
   rotate_left
   ·have d2:decide ((k:Int)<R)=false:=J3 (by omega);rw[I0 c2,M6]at hg;have F:=F4 F d1 d2 mw;(try refine sq F ?_);refine wk F ?_;refine kq F (hRm _) ?_;refine ee hQ F ?_;exact fin _ hg
   have d2:decide ((k:Int)<R)=true:=J7 (by omega);rw[I6 c2]at hg;have hG1:=hGu y.guid;have hpy:=hpv y;obtain⟨yg,yt,yk,ya,yb⟩:=y;rw[En.av_eq]at hm;simp only[]at hm hG1 hpy;cases hb:p ⟨yg,yt,yk,ya,yb⟩with
   |true=>
    rw[hb]at hg hpy;rw[I6 rfl]at hg;have F:=F7 F hpy hm hy d1 d2 mw;(try refine sq F ?_);refine wk F ?_;refine kq F (hRm _) ?_;refine kq F (hG1 _) ?_;refine hK2 _ _ _ (I9 ⟨i+1,k,v,ws,j++[.row 61 5 0 [.agg [.str yg,.str yt,.str yk,.int .i64 ya,.bool yb]]],rfl,by simp,?_,?_,?_,by omega,by omega,by omega,hg⟩) (by omega);all_goals try exact zZz F
   |false=>
    rw[hb]at hg hpy;rw[I0 (by simp)]at hg;have hg2:(ws++[evX id x.clock (x.t3+k+1) ⟨yg,yt,yk,ya,yb⟩])++goR id x.clock x.t3 R.toNat p (es.drop (i+1)) (k+1)=ttF id ft dt++goR id x.clock x.t3 R.toNat p es 0:=(by rw[← hg,N0];rfl);cases yb
    ·have F:=F7 F hpy hm hy d1 d2 mw;(try refine sq F ?_);refine wk F ?_;refine kq F (hRm _) ?_;refine kq F (hG1 _) ?_;refine aq F ?_;(try refine sq F ?_);refine wk F ?_;refine hK2 _ _ _ (I9 ⟨i+1,k+1,v+1,ws++[evX id x.clock (x.t3+k+1) ⟨yg,yt,yk,ya,false⟩],j++[.row 61 5 0 [.agg [.str yg,.str yt,.str yk,.int .i64 ya,.bool false]],.row 57 7 0 [(evX id x.clock (x.t3+k+1) ⟨yg,yt,yk,ya,false⟩).av]],rfl,by simp[Ev.av,evX,Int.add_assoc],?_,?_,?_,by omega,by omega,by simp;omega,hg2⟩) (by omega);all_goals try exact zZz F
    ·have F:=F7 F hpy hm hy d1 d2 mw;(try refine sq F ?_);refine wk F ?_;refine kq F (hRm _) ?_;refine kq F (hG1 _) ?_;refine aq F ?_;(try refine sq F ?_);refine wk F ?_;refine hK2 _ _ _ (I9 ⟨i+1,k+1,v+1,ws++[evX id x.clock (x.t3+k+1) ⟨yg,yt,yk,ya,true⟩],j++[.row 61 5 0 [.agg [.str yg,.str yt,.str yk,.int .i64 ya,.bool true]],.row 57 7 0 [(evX id x.clock (x.t3+k+1) ⟨yg,yt,yk,ya,true⟩).av]],rfl,by simp[Ev.av,evX,Int.add_assoc],?_,?_,?_,by omega,by omega,by simp;omega,hg2⟩) (by omega);all_goals try exact zZz F
end
section
attribute [local irreducible] WP WPl WPix Sat
theorem xP{s:PS}{id:Int}{f:Fe}(d:Fd)(hI:s.Inv)(hN:s.Nam)(hf:lkM s.fe id=some f):ofR s.tell id f.title d=brF s f d:=by
 have hi:=(hI.i2 _ _ hf).1;unfold ofR brF ttF evT;rw[nk,hi];have hr:s.tell.room=s.room:=by
  unfold St.room PS.room;rw[show s.tell.it.length=s.it.length from gr _ _];rfl
 have hp:(d.es.filter fun x=> !(fun y:En=>decide (s.tell.gid id y.guid>0)) x)=frF s id d.es:=by
  unfold frF;congr 1
  funext x
  show(!decide (s.tell.gid id x.guid>0))=_;rw[sB hI hN];cases hl:lkM s.gu (id,x.guid)with
  |none=>rfl
  |some k=>
   have:=hN.gu1 hI hl;have h1:decide (k>0)=true:=J7 (by omega);simp[h1]
 rw[hp,hr,Nat.sub_zero,show s.tell.t3+((0:Nat):Int)+1=s.t3+1 by show s.t3+0+1=_;omega];rfl
variable (G:Nat→Option (List AVal))
theorem nq(hG:GOk G)(hc:GClo (CT G))(es:List Ev)(id:Int)(d:Fd)(h:Heap):Sat (CT G) 5 [.sl 7 (es.map Ev.av),.int .i64 id,d.av] h (fun r h'=>r=.bool true∧h'=h):=by
 have hL:=oo G hG hc;have hLd:=ot G d;have hLg:=jY G es;have f2:d.av=.agg [.str d.title,.str d.link,.sl 5 (d.es.map En.av)]:=rfl;have dt1:∀i:Decidable True, @decide True i=true:=fun i=>by simp
 have df:∀i:Decidable False, @decide False i=false:=fun i=>by simp
 cases hlg:lgF es with
 |true=>
  rw[hlg]at hLg;rw[f2]at*;have F:= @ao;refine sb [.tmp 6] Tryz.func5 ?_;intro Q hQ;refine wk F ?_;refine kq F (hLg _) ?_;refine kq F (hL _) ?_;refine ee hQ F ?_;exact I2 (.bool _) ⟨rfl,rfl⟩
 |false=>
  rw[hlg]at hLg;have hel:=vZ hlg;have hI:(es.foldl (PS.step L0) PS.z).Inv:=PS.Inv.z.fold es;have hT:(es.foldl (PS.step L0) PS.z).Tops:=PS.Tops.z0.fold PS.Inv.z es;have hN:(es.foldl (PS.step L0) PS.z).Nam:=PS.Nam.z.fold PS.Inv.z es;obtain⟨rD,hrD⟩:∃rD,Blk.row 25 3 0 [d.av]=rD:=⟨_,rfl⟩;have hfh:=lz G es (by omega) (h++[rD]);have hRf:=sM G hc es (by omega);have hnl:(h++[rD]).length=h.length+1:=by simp
  rw[hnl]at hfh;generalize es.foldl (PS.step L0) PS.z=s at hI hT hN hfh hRf;have hz9:(PS.z.bl (h.length+1)).length=9:=rfl;obtain⟨H0,hH0⟩:∃H0,H0=h++[rD]++PS.z.bl (h.length+1):=⟨_,rfl⟩;rw[← hH0]at hfh;have hl0:H0.length=h.length+10:=by rw[hH0];simp[hz9]
  have hn0:∀j:Heap,h.length+1+9≤(H0++j).length:=fun j=>by simp;omega
  have hpre:∀j,∃j',H0++j=h++j':=fun j=>⟨[rD]++(PS.z.bl (h.length+1)++j),by rw[hH0];simp only[N0]⟩
  have r0:getRow (h++[rD]) h.length 0=some (25,3,[d.av]):=by rw[aR _ rfl, ← hrD];rfl
  have hrd:∀(s:PS) (j:Heap),getRow (so (H0++j) (h.length+1) s) h.length 0=some (25,3,[d.av]):=fun s j=>by
   have:=wa (H:=H0) (j:=j) (n:=h.length+1) (p:=h.length) (s:=s) (hn0 j) (by omega) (by omega) 0;rw[this,hH0,bu _ (by simp),r0]
  have hn00:=hn0 [];have hrd0:=hrd s [];rw[M6]at hn00 hrd0;have hOf:=fun(hS:FdS d) (X:Heap) (hX:h.length+1+9≤X.length)=>oW G (s:=s) (H:=X) (n:=h.length+1) hI hT hX id d hS
  have hTl:=fun(X:Heap) (hX:h.length+1+9≤X.length)=>jV G s hI.toOk (H:=X) (n:=h.length+1) hX
  have hCk:=fun(hU:FdU d)=>oy G hc d hU
  have x1:s.tell.fo.length≤64:=by show(valsM Fo.z s.fo).length≤_;rw[gr];exact hI.l1
  have x2:s.tell.fe.length≤64:=by show(valsM Fe.z s.fe).length≤_;rw[gr];exact hI.l2
  have x3:s.tell.it.length≤1024:=by show(valsM It.z s.it).length≤_;rw[gr];exact hI.l3
  have x4:s.tell.se.length≤32:=by show(valsM Se.z s.se).length≤_;rw[gr];exact hI.l4
  have xt:∀t∈s.tell.it,t.tags.length≤1048576:=fun t ht=>by
   obtain⟨k,hk⟩:=aN ht;have:=(hI.tg _ _ hk).2;omega
  have hSs:=ow G s.tell (by omega) (by omega) (by omega) (by omega) xt;have hFd:=bI G s.tell id (by omega);have hfd:=hI.fndFe id;have hRo:=fun(i0:Nat) (f:Fe) (hf:s.tell.fe[i0]? =some f) (hp:posF (·.id) s.tell.fe id=(i0:Int)) (he:d.es.length≤1000)=>wb G s.tell id d i0 f hf hp (by omega) x3 hT.z hT.m he
  have hoe:=fun(f:Fe) (hf:lkM s.fe id=some f)=>xP d hI hN hf
  have hpl:∀f,(brF s f d).length≤1+d.es.length:=fun f=>sO s f d
  rw[f2]at hLd hrD r0 hrd hrd0 hOf hCk hRo ⊢;obtain⟨x,hx⟩:∃x,s.tell=x:=⟨_,rfl⟩;rw[hx]at hTl hSs hFd hRf hfd hRo hoe;obtain⟨J,hJ⟩:∃J:Heap,[Blk.row 47 9 0 [x.av]]=J:=⟨_,rfl⟩;have hJ2:=hJ;have gJ:getRow J 0 0=some (47,9,[x.av]):=by rw[← hJ];rfl
  rw[St.av_eq]at hJ2 gJ hTl hSs hFd hRf hRo;have F:=F2 (F9 hJ2 @gJ @hrD r0 hrd hrd0 hn00 hn0 dt1) (F2 df @ao);refine sb [.tmp 6] Tryz.func5 ?_;intro Q hQ;refine wk F ?_;refine kq F (hLg _) ?_;refine(hLd _).mono ?_;rintro r h' ⟨⟨b,rfl,hb⟩,rfl⟩;cases b with
  |true=>
   (try refine sq F ?_);refine wk F ?_;refine kq F (hL _) ?_;refine ee hQ F ?_;exact I2 (.bool _) ⟨rfl,rfl⟩
  |false=>
   have hU:=hb rfl;have hO:=hOf hU.S;have hCk:=hCk hU;cases hf:lkM s.fe id with
   |none=>
    have hp:plF s id d (if fdOk d then 0 else 120)=([],4):=(by unfold plF;rw[hf]);rw[hp]at hO;have hO:∀(X:Heap),h.length+1+9≤X.length→Sat (CT G) 15 [.hp (h.length+1+8) 0 0 0,.int .i64 id,.agg [.str d.title,.str d.link,.sl 5 (d.es.map En.av)]] (so X (h.length+1) s) (fun r h'=>r=.tup [.sl 7 [],.int .i64 4]∧h'=so X (h.length+1) s):=hO;rw[hf]at hfd;rw[eO hfd]at hFd;(try refine sq F ?_);refine wk F ?_;refine kq F (hfh) ?_;refine kq F (hRf _) ?_;refine kq F (hL _) ?_;refine kq F (hO _ (hn0 _)) ?_;refine kq F (hFd _) ?_;refine ee hQ F ?_;exact iS (hn0 _) (hpre _) (by omega) ⟨rfl,rfl⟩
   |some f=>
    rw[hf]at hfd;obtain⟨i0,hi0,hp0,_⟩:=bi hfd;rw[hp0]at hFd;have q0:decide ((i0:Int)<0)=false:=J3 (by omega);cases hk:fdOk d with
    |false=>
     have hp:plF s id d (if fdOk d then 0 else 120)=([],120):=(by unfold plF;rw[hf,hk];rfl);rw[hp]at hO;have hO:∀(X:Heap),h.length+1+9≤X.length→Sat (CT G) 15 [.hp (h.length+1+8) 0 0 0,.int .i64 id,.agg [.str d.title,.str d.link,.sl 5 (d.es.map En.av)]] (so X (h.length+1) s) (fun r h'=>r=.tup [.sl 7 [],.int .i64 120]∧h'=so X (h.length+1) s):=hO;rw[hk]at hCk;have F:=F2 F q0;(try refine sq F ?_);refine wk F ?_;refine kq F (hfh) ?_;refine kq F (hRf _) ?_;refine kq F (hL _) ?_;refine kq F (hO _ (hn0 _)) ?_;refine kq F (hFd _) ?_;refine kq F (hCk _) ?_;refine ee hQ F ?_;exact iS (hn0 _) (hpre _) (by omega) ⟨rfl,rfl⟩
    |true=>
     have hp:plF s id d (if fdOk d then 0 else 120)=(brF s f d,0):=(by unfold plF;rw[hf,hk];rfl);rw[hp]at hO;have hel2:=hU.2.2.1;have hRo:=hRo i0 f hi0 hp0 (by omega);rw[hoe f hf]at hRo;have hbl:=hpl f;have hSe:=ou G (brF s f d) (by omega);rw[hk]at hCk;generalize brF s f d=l at*;have hO:∀(X:Heap),h.length+1+9≤X.length→Sat (CT G) 15 [.hp (h.length+1+8) 0 0 0,.int .i64 id,.agg [.str d.title,.str d.link,.sl 5 (d.es.map En.av)]] (so X (h.length+1) s) (fun r h'=>r=.tup [.sl 7 (l.map Ev.av),.int .i64 0]∧h'=so X (h.length+1) s):=hO;have F:=F2 F q0;(try refine sq F ?_);refine wk F ?_;refine kq F (hfh) ?_;refine kq F (hRf _) ?_;refine kq F (hL _) ?_;refine kq F (hO _ (hn0 _)) ?_;refine kq F (hFd _) ?_;refine kq F (hCk _) ?_;refine au (hRo _) ?_;(try refine sq F ?_);refine wk F ?_;refine au (hSe _) ?_;(try refine sq F ?_);refine wk F ?_;refine au (hTl _ (hn0 _)) ?_;(try refine sq F ?_);refine wk F ?_;refine au (hSs _) ?_;(try refine sq F ?_);refine wk F ?_;refine ee hQ F ?_;exact iS (hn0 _) (hpre _) (by omega) ⟨rfl,rfl⟩
end
end Go.Av
